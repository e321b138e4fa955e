-- A text of the machine side, written by wip/gen.py of this repo out of the translation. Not trusted: Lean checks it.
import Derived.Test.YtkobjjadojpjfaaF0
namespace Go.Proofs.Ytkobjjadojpjfaa.Pr
open Go.RowKit Go.Proofs.YtkobjjadojpjfaaW.PrintWords Go.Proofs.YtkobjjadojpjfaaW.PrintLast Go.Proofs.YtkobjjadojpjfaaW.PrintMore
attribute [local go_sem] max2_int min2_int max_two min_two max_three min_three max_four min_four   -- for this text's walks alone
set_option linter.unusedVariables false
set_option linter.unusedSimpArgs false

abbrev bSpecSqWith_0 : Array Bool := #[false, false, false, false, false, false, false, false, false, false, false, false, false, false]
abbrev bSpecSqWith_12 : Array Bool := #[true, true, true, true, true, true, true, true, true, true, true, true, false, false]
abbrev bSpecSqWith_14 : Array Bool := #[true, true, true, true, true, true, true, true, true, true, true, true, true, true]
abbrev bSpecSqWith_15 : Array Bool := #[false, false, false, false, false, false, false, false, false, false]
abbrev bSpecSqWith_21 : Array Bool := #[true, true, true, true, true, true, true, true, false, false]
abbrev bSpecSqWith_22 : Array Bool := #[true, true, true, true, true, false, true, false, false, false]
abbrev bSpecSqWith_23 : Array Bool := #[false, true, true, true, true, false, true, true, false, false]
abbrev bSpecSqWith_24 : Array Bool := #[true, true, true, true, true, true, true, false, false, false]
abbrev bSpecSqWith_25 : Array Bool := #[true, true, true, true, true, false, true, true, false, false]
abbrev bSpecSqWith_26 : Array Bool := #[true, true, true, true, true, true, true, true, true, false]
/-! ### spec_sqWith: function 126 -/
def spec_sqWith.l0 : Nat → Int → Int → Int → Int → List (S27) → Int → Int → Option (Int × Int × Int × (List (S27)))
 | 0, _, _, _, _, _, _, _ => none
 | k + 1, x5, xBE000, xBE001, xBE002, xBE003, xBF000, xBF001 => if x5 > 0 then (if 0 ≤ (wrap64 (x5 - 1)) then (if (wrap64 (x5 - 1)) < (xBE003.length : Int) then (if ((rd_T27 xBE003 (wrap64 (x5 - 1))).f0) > xBF000 then (spec_sqWith.l0 k (wrap64 (x5 - 1)) xBE000 xBE001 xBE002 xBE003 xBF000 xBF001) else ((some (([] : List (S27)) : List (S27))).bind fun yBH => (if 0 ≤ x5 then (if x5 ≤ (xBE003.length : Int) then ((some (xBE003.take (x5 : Int).toNat : List (S27))).bind fun yBK => (if yBH.length + yBK.length < 8796093022208 then ((some (yBH ++ yBK : List (S27))).bind fun yBO => ((some (([(⟨xBF000, xBF001⟩ : S27)] : List (S27)) : List (S27))).bind fun yBR => (if yBO.length + yBR.length < 8796093022208 then ((some (yBO ++ yBR : List (S27))).bind fun yBU => ((some (xBE003.drop (x5 : Int).toNat : List (S27))).bind fun yBX => (if yBU.length + yBX.length < 8796093022208 then (some (xBE000, xBE001, xBE002, (yBU ++ yBX))) else (none)))) else (none)))) else (none))) else (none)) else (none)))) else (none)) else (none)) else ((some (([] : List (S27)) : List (S27))).bind fun yC4 => (if 0 ≤ x5 then (if x5 ≤ (xBE003.length : Int) then ((some (xBE003.take (x5 : Int).toNat : List (S27))).bind fun yC7 => (if yC4.length + yC7.length < 8796093022208 then ((some (yC4 ++ yC7 : List (S27))).bind fun yCb => ((some (([(⟨xBF000, xBF001⟩ : S27)] : List (S27)) : List (S27))).bind fun yCe => (if yCb.length + yCe.length < 8796093022208 then ((some (yCb ++ yCe : List (S27))).bind fun yCh => ((some (xBE003.drop (x5 : Int).toNat : List (S27))).bind fun yCk => (if yCh.length + yCk.length < 8796093022208 then (some (xBE000, xBE001, xBE002, (yCh ++ yCk))) else (none)))) else (none)))) else (none))) else (none)) else (none)))
def spec_sqWith.f (k : Nat) (a0_0 : Int) (a0_1 : Int) (a0_2 : Int) (l0_3 : List (S27)) (a1_0 : Int) (a1_1 : Int) : Option (Int × Int × Int × (List (S27))) := spec_sqWith.l0 k (l0_3.length : Int) a0_0 a0_1 a0_2 l0_3 a1_0 a1_1
def spec_sqWith.T2 : Bool × List (List Nat × List Nat) := (true, [([], []), ([0], [0]), ([1], [1]), ([2], [2]), ([3, 2], [2, 3]), ([2], [2]), ([5, 2], [2, 5]), ([4, 6, 2], [2, 4, 6]), ([7, 2], [2, 7]), ([8, 2], [2, 8]), ([2], [2]), ([10, 2], [2, 10]), ([9, 11, 2], [2, 9, 11]), ([2, 12], [2, 12])])
def spec_sqWith.B2 : List Nat := [0, 1, 3, 7, 15, 7, 39, 127, 255, 511, 7, 1031, 4095, 8191]
theorem spec_sqWith.tab2 : rtab .any (opsOf Try.f126 2) = spec_sqWith.T2 := by kernel_rfl
theorem spec_sqWith.bits2 : waitsOk spec_sqWith.T2.2 spec_sqWith.B2 = true := by kernel_rfl
def spec_sqWith.T4 : Bool × List (List Nat × List Nat) := (true, [([], []), ([], []), ([1], [1]), ([], []), ([2, 3], [2, 3]), ([0, 4], [0, 4]), ([], []), ([6], [6]), ([5, 7, 5], [5, 7]), ([8, 8, 0, 1, 2, 3, 4, 5, 6, 7, 8], [8])])
def spec_sqWith.B4 : List Nat := [0, 0, 2, 0, 14, 31, 0, 64, 255, 511]
theorem spec_sqWith.tab4 : rtab .any (opsOf Try.f126 4) = spec_sqWith.T4 := by kernel_rfl
theorem spec_sqWith.bits4 : waitsOk spec_sqWith.T4.2 spec_sqWith.B4 = true := by kernel_rfl
def spec_sqWith.T5 : Bool × List (List Nat × List Nat) := (true, [([], []), ([0], [0]), ([], []), ([2], [2]), ([], []), ([4], [4]), ([], []), ([], []), ([7], [7]), ([], []), ([8, 9], [8, 9]), ([6, 10], [6, 10]), ([1, 3, 5, 11], [1, 3, 5, 11]), ([12, 11, 0, 1, 2, 3, 4, 5, 6, 7, 8, 9, 10, 11, 12], [12])])
def spec_sqWith.B5 : List Nat := [0, 1, 0, 4, 0, 16, 0, 0, 128, 0, 896, 1984, 4095, 8191]
theorem spec_sqWith.tab5 : rtab .any (opsOf Try.f126 5) = spec_sqWith.T5 := by kernel_rfl
theorem spec_sqWith.bits5 : waitsOk spec_sqWith.T5.2 spec_sqWith.B5 = true := by kernel_rfl
set_option maxHeartbeats 8000000 in
set_option maxRecDepth 100000 in
theorem spec_sqWith.calls (k : Nat) (a0_0 : Int) (a0_1 : Int) (a0_2 : Int) (A0_3 : Option Addr) (c0_3 : Nat) (l0_3 : List (S27)) (a1_0 : Int) (a1_1 : Int) (r1 : Int) (r2 : Int) (r3 : Int) (r4 : List (S27)) (w : World) (hr0_3 : Kd.C k27 w A0_3 l0_3.length l0_3) (hc0_3 : l0_3.length ≤ c0_3) (h : spec_sqWith.f k a0_0 a0_1 a0_2 l0_3 a1_0 a1_1 = some (r1, r2, r3, r4)) :
  Calls Try.prog 126 #[.agg #[.int .i64 a0_0, .int .i64 a0_1, .int .i64 a0_2, .slice A0_3 l0_3.length c0_3], .agg #[.int .i64 a1_0, .int .i64 a1_1]] w fun e w' => ∃ v3_ : Value, e = .returned (.agg #[.int .i64 r1, .int .i64 r2, .int .i64 r3, v3_]) ∧ Kd.R k27 27 w' w.heap.size (fun _ => True) v3_ r4 ∧ Below w.heap.size w w' := by
 have hu32 := Try.underlying32
 have hu27 := Try.underlying27
 have HR0_3 := Am hr0_3
 have HC0_3 := Am hc0_3
 clear hr0_3 hc0_3
 have HB := Am (Below.refl w.heap.size w)
 have H : (spec_sqWith.l0 k (l0_3.length : Int) a0_0 a0_1 a0_2 l0_3 a1_0 a1_1) = some (r1, r2, r3, r4) := h
 clear h
 have H' := Am H
 clear H
 go_enter Try.func126, Try.ntmps126
 go_wp2_with (first | ((with_reducible refine gate_dst (N := 2) rfl ?_); refine box_event (by rfl) (N := 2) (by rfl) (cs := #[.int .i64 a0_0, .int .i64 a0_1, .int .i64 a0_2, .slice A0_3 l0_3.length c0_3]) (t := 32) hrS ?_; intro gbBD hg w3 hbox hb; have n0_ := Am (below_step belS hb); have n1_ := Am (hbox); have n2_ := Am (geS hg : w.heap.size ≤ gbBD); have n3_ := n2_; clear HB; revert n0_ n1_ n2_ n3_; intro HB BKBD GWBD GEBD; clear hb hbox hg) | ((with_reducible refine gate_dst (N := 3) rfl ?_); refine box_event (by rfl) (N := 3) (by rfl) (cs := #[.int .i64 a1_0, .int .i64 a1_1]) (t := 27) hrS ?_; intro gbBE hg w4 hbox hb; have n0_ := Am (blk_below (blk_up BKBD.out) hb); have n1_ := Am (below_step belS hb); have n2_ := Am (hbox); have n3_ := Am (geS hg : w.heap.size ≤ gbBE); have n4_ := n3_; have n5_ := Am ((by rw [hg]; exact Nat.ne_of_lt (blk_lt (blk_up BKBD.out)) : gbBD ≠ gbBE)); have n6_ := Am ((by rw [hg]; exact Nat.ne_of_gt (blk_lt (blk_up BKBD.out)) : gbBE ≠ gbBD)); clear BKBD HB; revert n0_ n1_ n2_ n3_ n4_ n5_ n6_; intro BKBD HB BKBE GWBE GEBE NBBD_BE NBBE_BD; clear hb hbox hg) | ((with_reducible refine gate_dst (N := 4) rfl ?_); refine box_event (by rfl) (N := 4) (by rfl) (cs := #[.int .i64 0, .int .i64 0, .int .i64 0, .slice none 0 0]) (t := 32) hrS ?_; intro gbBF hg w5 hbox hb; have n0_ := Am (blk_below (blk_up BKBD.out) hb); have n1_ := Am (blk_below (blk_up BKBE.out) hb); have n2_ := Am (below_step belS hb); have n3_ := Am (hbox); have n4_ := Am (geS hg : w.heap.size ≤ gbBF); have n5_ := n4_; have n6_ := Am ((by rw [hg]; exact Nat.ne_of_lt (blk_lt (blk_up BKBD.out)) : gbBD ≠ gbBF)); have n7_ := Am ((by rw [hg]; exact Nat.ne_of_gt (blk_lt (blk_up BKBD.out)) : gbBF ≠ gbBD)); have n8_ := Am ((by rw [hg]; exact Nat.ne_of_lt (blk_lt (blk_up BKBE.out)) : gbBE ≠ gbBF)); have n9_ := Am ((by rw [hg]; exact Nat.ne_of_gt (blk_lt (blk_up BKBE.out)) : gbBF ≠ gbBE)); clear BKBD BKBE HB; revert n0_ n1_ n2_ n3_ n4_ n5_ n6_ n7_ n8_ n9_; intro BKBD BKBE HB BKBF GWBF GEBF NBBD_BF NBBF_BD NBBE_BF NBBF_BE; clear hb hbox hg; have hnb6 := NBBD_BE.out; have hnc6 := NBBE_BD.out; have hnb7 := NBBD_BF.out; have hnc7 := NBBF_BD.out; obtain ⟨hcz8_0, hcz8_1, hcz8_2, hcz8_3, hfz8_0, hfz8_1, hfz8_2, hfz8_3⟩ := blk4 BKBD.out))
 go_loopg [5] k (fun kq v5 w' => ∃ (x5_1 : Int), v5 = .int .i64 x5_1 ∧ Aside0 (spec_sqWith.l0 kq x5_1 a0_0 a0_1 a0_2 l0_3 a1_0 a1_1 = some (r1, r2, r3, r4)) ∧ Aside0 (kq ≤ k) ∧ Aside0 (w'.heap[gbBD]? = some (.cells #[.int .i64 a0_0, .int .i64 a0_1, .int .i64 a0_2, (.slice A0_3 l0_3.length c0_3)] 32 (0, 0))) ∧ Aside0 (w'.heap[gbBE]? = some (.cells #[.int .i64 a1_0, .int .i64 a1_1] 27 (0, 0))) ∧ Aside0 (w'.heap[gbBF]? = some (.cells #[.int .i64 0, .int .i64 0, .int .i64 0, (.slice none 0 0)] 32 (0, 0))) ∧ Aside0 (Below w.heap.size w w'))
 case atStart => exact ⟨((l0_3.length : Int)), rfS, H', ⟨Nat.le_refl _⟩, ⟨by first | exact blk_up BKBD.out | exact BKBD.out⟩, ⟨by first | exact blk_up BKBE.out | exact BKBE.out⟩, ⟨by first | exact blk_up BKBF.out | exact BKBF.out⟩, ⟨by exact belS⟩⟩
 case round =>
  clear H'
  try clear hcz8_0 hcz8_1 hcz8_2 hcz8_3
  try clear hfz8_0 hfz8_1 hfz8_2 hfz8_3
  obtain ⟨x5_1, rfl, HA, HK1, BKBD, BKBE, BKBF, HB⟩ := hrel
  cases gk with
  | zero => exact absurd HA.out (by simp [spec_sqWith.l0])
  | succ k1 =>
   have H := HA.out
   clear HA
   simp only [spec_sqWith.l0] at H
   by_cases c9 : x5_1 > 0
   ·rw [if_pos c9] at H
    have c9b0 : decide (0 < x5_1) = true := decide_eq_true c9
    clear c9
    obtain ⟨ji10, hji10⟩ : ∃ j_ : Int, (wrap64 (x5_1 - 1)) = j_ := ⟨_, rfl⟩
    replace H : (if 0 ≤ (ji10) then (if (ji10) < (l0_3.length : Int) then (if ((rd_T27 l0_3 (ji10)).f0) > a1_0 then (spec_sqWith.l0 k1 ji10 a0_0 a0_1 a0_2 l0_3 a1_0 a1_1) else ((some (([] : List (S27)) : List (S27))).bind fun yBH => (if 0 ≤ x5_1 then (if x5_1 ≤ (l0_3.length : Int) then ((some (l0_3.take (x5_1 : Int).toNat : List (S27))).bind fun yBK => (if yBH.length + yBK.length < 8796093022208 then ((some (yBH ++ yBK : List (S27))).bind fun yBO => ((some (([(⟨a1_0, a1_1⟩ : S27)] : List (S27)) : List (S27))).bind fun yBR => (if yBO.length + yBR.length < 8796093022208 then ((some (yBO ++ yBR : List (S27))).bind fun yBU => ((some (l0_3.drop (x5_1 : Int).toNat : List (S27))).bind fun yBX => (if yBU.length + yBX.length < 8796093022208 then (some (a0_0, a0_1, a0_2, (yBU ++ yBX))) else (none)))) else (none)))) else (none))) else (none)) else (none)))) else (none)) else (none)) = some (r1, r2, r3, r4) := by first | (rw [hji10] at H; exact H) | (simp only [hji10] at H ⊢; exact H)
    have hji10w : (IntKind.i64.wrap (x5_1 - 1)) = ji10 := (i64_w _).trans hji10
    by_cases c11 : 0 ≤ (ji10)
    ·rw [if_pos c11] at H
     have c11b0 : decide (0 ≤ (ji10)) = true := decide_eq_true c11
     clear c11
     by_cases c12 : (ji10) < (l0_3.length : Int)
     ·rw [if_pos c12] at H
      have c12b0 : decide ((ji10) < (l0_3.length : Int)) = true := decide_eq_true c12
      clear c12
      by_cases c13 : ((rd_T27 l0_3 (ji10)).f0) > a1_0
      ·rw [if_pos c13] at H
       have c13b0 : decide (a1_0 < ((rd_T27 l0_3 (ji10)).f0)) = true := decide_eq_true c13
       clear c13
       have H' := Am H
       clear H
       try go_wp2
       have n0_ := Am (blk_drew BKBD.out)
       have n1_ := Am (blk_drew BKBE.out)
       have n2_ := Am (blk_drew BKBF.out)
       have n3_ := Am (below_drew1 HB.out)
       clear BKBD
       clear BKBE
       clear BKBF
       clear HB
       have BKBD := n0_
       have BKBE := n1_
       have BKBF := n2_
       have HB := n3_
       clear n0_ n1_ n2_ n3_
       have pBG : 0 ≤ ((ji10) : Int) := ofd
       have qBG : (ji10) < (l0_3.length : Int) := ofd
       obtain ⟨adBG, eBG, hxBG_0, hxBG_1⟩ := at_T27 HR0_3.out (ji10) pBG qBG
       have hwBG_1 := hxBG_1
       have hwBG_0 := hxBG_0
       cases eBG
       first | (replace hxBG_0 := (HB.out.cell (World.block_lt_of_cell? w _ hxBG_0)).trans hxBG_0) | skip
       first | (replace hxBG_1 := (HB.out.cell (World.block_lt_of_cell? w _ hxBG_1)).trans hxBG_1) | skip
       replace pBG := eq_true pBG
       replace qBG := eq_true qBG
       refine start_ (n := 14) (S := fun w' => w'.cell? ⟨gbBD, 0, none⟩ = some (.int .i64 a0_0) ∧ w'.cell? ⟨gbBD, 1, none⟩ = some (.int .i64 a0_1) ∧ w'.cell? ⟨gbBD, 2, none⟩ = some (.int .i64 a0_2) ∧ w'.cell? ⟨gbBD, 3, none⟩ = some (.slice (some adBG) l0_3.length c0_3) ∧ w'.cell? ⟨gbBE, 0, none⟩ = some (.int .i64 a1_0) ∧ w'.cell? ⟨gbBE, 1, none⟩ = some (.int .i64 a1_1) ∧ w'.cell? (adBG.add (((ji10)).toNat * 2)) = some (.int .i64 ((rd_T27 l0_3 (ji10)).f0)) ∧ w'.cell? ⟨(adBG.add (((ji10)).toNat * 2)).block, (adBG.add (((ji10)).toNat * 2)).off + 1, none⟩ = some (.int .i64 ((rd_T27 l0_3 (ji10)).f1))) (ds := []) bSpecSqWith_0 (by kernel_rfl) rfl rfl ⟨(blk_cell BKBD.out 0).trans rfl, (blk_cell BKBD.out 1).trans rfl, (blk_cell BKBD.out 2).trans rfl, (blk_cell BKBD.out 3).trans rfl, (blk_cell BKBE.out 0).trans rfl, (blk_cell BKBE.out 1).trans rfl, ((HB.out.cell (World.block_lt_of_cell? w _ hwBG_0)).trans hwBG_0), ((HB.out.cell (World.block_lt_of_cell? w _ hwBG_1)).trans hwBG_1)⟩ (fun hHeld => ?_); refine with_tabW spec_sqWith.tab2 spec_sqWith.bits2 (fun HT_ HW_ => ?_)
       generalize wr.drew = w14 at BKBD BKBE BKBF HB hxBG_0 hxBG_1 hHeld ⊢
       refine puS 0 10 ?_
       refine puS 1 11 ?_
       refine puS 2 12 ?_
       refine puS 3 13 ?_
       refine puS 5 15 ?_
       refine puS 6 16 ?_
       refine puS 10 20 ?_
       refine tkS 4 14 ?_
       refine puS 7 17 ?_
       refine puS 8 18 ?_
       refine tkS 9 19 ?_
       refine tkS 11 21 ?_
       refine puS 12 22 ?_
       refine puS 13 23 ?_
       refine done_ (done_of HT_.out (by kernel_rfl)) ?_
       try go_wp2
       go_roundg k1
       case measure => have := HK1.out; omega
       case rel => exact ⟨(ji10), (by first | rfl | (simp; done) | (simp only [← hji10] <;> (first | rfl | simp)) | (simp [*]; done)), H', ⟨by have := HK1.out; omega⟩, ⟨by first | exact blk_up BKBD.out | exact BKBD.out⟩, ⟨by first | exact blk_up BKBE.out | exact BKBE.out⟩, ⟨by first | exact blk_up BKBF.out | exact BKBF.out⟩, ⟨by exact belS⟩⟩
      ·rw [if_neg c13] at H
       have c13b0 : decide (a1_0 < ((rd_T27 l0_3 (ji10)).f0)) = false := decide_eq_false c13
       clear c13
       obtain ⟨yBH, hyBH⟩ : ∃ y_ : List (S27), y_ = (([] : List (S27))) := ⟨_, rfl⟩
       replace H : (if 0 ≤ x5_1 then (if x5_1 ≤ (l0_3.length : Int) then ((some (l0_3.take (x5_1 : Int).toNat : List (S27))).bind fun yBK => (if yBH.length + yBK.length < 8796093022208 then ((some (yBH ++ yBK : List (S27))).bind fun yBO => ((some (([(⟨a1_0, a1_1⟩ : S27)] : List (S27)) : List (S27))).bind fun yBR => (if yBO.length + yBR.length < 8796093022208 then ((some (yBO ++ yBR : List (S27))).bind fun yBU => ((some (l0_3.drop (x5_1 : Int).toNat : List (S27))).bind fun yBX => (if yBU.length + yBX.length < 8796093022208 then (some (a0_0, a0_1, a0_2, (yBU ++ yBX))) else (none)))) else (none)))) else (none))) else (none)) else (none)) = some (r1, r2, r3, r4) := by first | (rw [hyBH]; with_reducible exact H) | (have H2_ := (Option.bind_some _ _).symm.trans H; rw [hyBH]; with_reducible exact H2_) | (have H2_ := (Option.bind_some _ _).symm.trans H; with_reducible exact H2_) | with_reducible exact H | (rw [hyBH]; exact H) | exact H
       have NyBH := Am hyBH
       clear hyBH
       by_cases c15 : 0 ≤ x5_1
       ·rw [if_pos c15] at H
        have c15b0 := eq_true c15
        have c15b1 : decide (0 ≤ x5_1) = true := decide_eq_true c15
        clear c15
        by_cases c16 : x5_1 ≤ (l0_3.length : Int)
        ·rw [if_pos c16] at H
         have c16b0 := eq_true c16
         have c16b1 : decide (x5_1 ≤ (l0_3.length : Int)) = true := decide_eq_true c16
         clear c16
         obtain ⟨yBK, hyBK⟩ : ∃ y_ : List (S27), y_ = (l0_3.take (x5_1 : Int).toNat) := ⟨_, rfl⟩
         replace H : (if yBH.length + yBK.length < 8796093022208 then ((some (yBH ++ yBK : List (S27))).bind fun yBO => ((some (([(⟨a1_0, a1_1⟩ : S27)] : List (S27)) : List (S27))).bind fun yBR => (if yBO.length + yBR.length < 8796093022208 then ((some (yBO ++ yBR : List (S27))).bind fun yBU => ((some (l0_3.drop (x5_1 : Int).toNat : List (S27))).bind fun yBX => (if yBU.length + yBX.length < 8796093022208 then (some (a0_0, a0_1, a0_2, (yBU ++ yBX))) else (none)))) else (none)))) else (none)) = some (r1, r2, r3, r4) := by first | (rw [hyBK]; with_reducible exact H) | (have H2_ := (Option.bind_some _ _).symm.trans H; rw [hyBK]; with_reducible exact H2_) | (have H2_ := (Option.bind_some _ _).symm.trans H; with_reducible exact H2_) | with_reducible exact H | (rw [hyBK]; exact H) | exact H
         have NyBK := Am hyBK
         clear hyBK
         by_cases c17 : yBH.length + yBK.length < 8796093022208
         ·rw [if_pos c17] at H
          have LMc17 := Am c17
          clear c17
          obtain ⟨yBO, hyBO⟩ : ∃ y_ : List (S27), y_ = (yBH ++ yBK) := ⟨_, rfl⟩
          replace H : ((some (([(⟨a1_0, a1_1⟩ : S27)] : List (S27)) : List (S27))).bind fun yBR => (if yBO.length + yBR.length < 8796093022208 then ((some (yBO ++ yBR : List (S27))).bind fun yBU => ((some (l0_3.drop (x5_1 : Int).toNat : List (S27))).bind fun yBX => (if yBU.length + yBX.length < 8796093022208 then (some (a0_0, a0_1, a0_2, (yBU ++ yBX))) else (none)))) else (none))) = some (r1, r2, r3, r4) := by first | (rw [hyBO]; with_reducible exact H) | (have H2_ := (Option.bind_some _ _).symm.trans H; rw [hyBO]; with_reducible exact H2_) | (have H2_ := (Option.bind_some _ _).symm.trans H; with_reducible exact H2_) | with_reducible exact H | (rw [hyBO]; exact H) | exact H
          have NyBO := Am hyBO
          clear hyBO
          obtain ⟨yBR, hyBR⟩ : ∃ y_ : List (S27), y_ = (([(⟨a1_0, a1_1⟩ : S27)] : List (S27))) := ⟨_, rfl⟩
          replace H : (if yBO.length + yBR.length < 8796093022208 then ((some (yBO ++ yBR : List (S27))).bind fun yBU => ((some (l0_3.drop (x5_1 : Int).toNat : List (S27))).bind fun yBX => (if yBU.length + yBX.length < 8796093022208 then (some (a0_0, a0_1, a0_2, (yBU ++ yBX))) else (none)))) else (none)) = some (r1, r2, r3, r4) := by first | (rw [hyBR]; with_reducible exact H) | (have H2_ := (Option.bind_some _ _).symm.trans H; rw [hyBR]; with_reducible exact H2_) | (have H2_ := (Option.bind_some _ _).symm.trans H; with_reducible exact H2_) | with_reducible exact H | (rw [hyBR]; exact H) | exact H
          have NyBR := Am hyBR
          clear hyBR
          by_cases c18 : yBO.length + yBR.length < 8796093022208
          ·rw [if_pos c18] at H
           have LMc18 := Am c18
           clear c18
           obtain ⟨yBU, hyBU⟩ : ∃ y_ : List (S27), y_ = (yBO ++ yBR) := ⟨_, rfl⟩
           replace H : ((some (l0_3.drop (x5_1 : Int).toNat : List (S27))).bind fun yBX => (if yBU.length + yBX.length < 8796093022208 then (some (a0_0, a0_1, a0_2, (yBU ++ yBX))) else (none))) = some (r1, r2, r3, r4) := by first | (rw [hyBU]; with_reducible exact H) | (have H2_ := (Option.bind_some _ _).symm.trans H; rw [hyBU]; with_reducible exact H2_) | (have H2_ := (Option.bind_some _ _).symm.trans H; with_reducible exact H2_) | with_reducible exact H | (rw [hyBU]; exact H) | exact H
           have NyBU := Am hyBU
           clear hyBU
           have c19b0 := eq_true (ofd : 0 ≤ x5_1)
           have c20b0 := eq_true (ofd : x5_1 ≤ (l0_3.length : Int))
           obtain ⟨yBX, hyBX⟩ : ∃ y_ : List (S27), y_ = (l0_3.drop (x5_1 : Int).toNat) := ⟨_, rfl⟩
           replace H : (if yBU.length + yBX.length < 8796093022208 then (some (a0_0, a0_1, a0_2, (yBU ++ yBX))) else (none)) = some (r1, r2, r3, r4) := by first | (rw [hyBX]; with_reducible exact H) | (have H2_ := (Option.bind_some _ _).symm.trans H; rw [hyBX]; with_reducible exact H2_) | (have H2_ := (Option.bind_some _ _).symm.trans H; with_reducible exact H2_) | with_reducible exact H | (rw [hyBX]; exact H) | exact H
           have NyBX := Am hyBX
           clear hyBX
           by_cases c21 : yBU.length + yBX.length < 8796093022208
           ·rw [if_pos c21] at H
            have LMc21 := Am c21
            clear c21
            obtain ⟨yC1, hyC1⟩ : ∃ y_ : List (S27), y_ = (yBU ++ yBX) := ⟨_, rfl⟩
            replace H : (some (a0_0, a0_1, a0_2, yC1)) = some (r1, r2, r3, r4) := by first | (rw [hyC1]; with_reducible exact H) | (have H2_ := (Option.bind_some _ _).symm.trans H; rw [hyC1]; with_reducible exact H2_) | (have H2_ := (Option.bind_some _ _).symm.trans H; with_reducible exact H2_) | with_reducible exact H | (rw [hyC1]; exact H) | exact H
            have NyC1 := Am hyC1
            clear hyC1
            simp only [Option.some.injEq, Prod.mk.injEq] at H
            obtain ⟨rfl, rfl, rfl, rfl⟩ := H
            try go_wp2
            have n0_ := Am (blk_drew BKBD.out)
            have n1_ := Am (blk_drew BKBE.out)
            have n2_ := Am (blk_drew BKBF.out)
            have n3_ := Am (below_drew1 HB.out)
            clear BKBD
            clear BKBE
            clear BKBF
            clear HB
            have BKBD := n0_
            have BKBE := n1_
            have BKBF := n2_
            have HB := n3_
            clear n0_ n1_ n2_ n3_
            have pBG : 0 ≤ ((ji10) : Int) := ofd
            have qBG : (ji10) < (l0_3.length : Int) := ofd
            obtain ⟨adBG, eBG, hxBG_0, hxBG_1⟩ := at_T27 HR0_3.out (ji10) pBG qBG
            have hwBG_1 := hxBG_1
            have hwBG_0 := hxBG_0
            cases eBG
            first | (replace hxBG_0 := (HB.out.cell (World.block_lt_of_cell? w _ hxBG_0)).trans hxBG_0) | skip
            first | (replace hxBG_1 := (HB.out.cell (World.block_lt_of_cell? w _ hxBG_1)).trans hxBG_1) | skip
            replace pBG := eq_true pBG
            replace qBG := eq_true qBG
            refine start_ (n := 14) (S := fun w' => w'.cell? ⟨gbBD, 0, none⟩ = some (.int .i64 a0_0) ∧ w'.cell? ⟨gbBD, 1, none⟩ = some (.int .i64 a0_1) ∧ w'.cell? ⟨gbBD, 2, none⟩ = some (.int .i64 a0_2) ∧ w'.cell? ⟨gbBD, 3, none⟩ = some (.slice (some adBG) l0_3.length c0_3) ∧ w'.cell? ⟨gbBE, 0, none⟩ = some (.int .i64 a1_0) ∧ w'.cell? ⟨gbBE, 1, none⟩ = some (.int .i64 a1_1) ∧ w'.cell? (adBG.add (((ji10)).toNat * 2)) = some (.int .i64 ((rd_T27 l0_3 (ji10)).f0)) ∧ w'.cell? ⟨(adBG.add (((ji10)).toNat * 2)).block, (adBG.add (((ji10)).toNat * 2)).off + 1, none⟩ = some (.int .i64 ((rd_T27 l0_3 (ji10)).f1))) (ds := []) bSpecSqWith_0 (by kernel_rfl) rfl rfl ⟨(blk_cell BKBD.out 0).trans rfl, (blk_cell BKBD.out 1).trans rfl, (blk_cell BKBD.out 2).trans rfl, (blk_cell BKBD.out 3).trans rfl, (blk_cell BKBE.out 0).trans rfl, (blk_cell BKBE.out 1).trans rfl, ((HB.out.cell (World.block_lt_of_cell? w _ hwBG_0)).trans hwBG_0), ((HB.out.cell (World.block_lt_of_cell? w _ hwBG_1)).trans hwBG_1)⟩ (fun hHeld => ?_); refine with_tabW spec_sqWith.tab2 spec_sqWith.bits2 (fun HT_ HW_ => ?_)
            generalize wr.drew = w22 at BKBD BKBE BKBF HB hxBG_0 hxBG_1 hHeld ⊢
            refine puS 0 10 ?_
            refine puS 1 11 ?_
            refine puS 2 12 ?_
            refine puS 3 13 ?_
            refine puS 5 15 ?_
            refine puS 6 16 ?_
            refine puS 10 20 ?_
            refine tkS 4 14 ?_
            refine puS 7 17 ?_
            refine puS 8 18 ?_
            refine tkS 9 19 ?_
            refine tkS 11 21 ?_
            refine puS 12 22 ?_
            refine puS 13 23 ?_
            refine done_ (done_of HT_.out (by kernel_rfl)) ?_
            try go_wp2
            have n0_ := Am (blk_drew BKBD.out)
            have n1_ := Am (blk_drew BKBE.out)
            have n2_ := Am (blk_drew BKBF.out)
            have n3_ := Am (below_drew1 HB.out)
            clear BKBD
            clear BKBE
            clear BKBF
            clear HB
            have BKBD := n0_
            have BKBE := n1_
            have BKBF := n2_
            have HB := n3_
            clear n0_ n1_ n2_ n3_
            have q24 : (x5_1 : Int) ≤ ((l0_3.length : Int) : Int) := ofd
            obtain ⟨i024, hi024, _, hsz24, _⟩ := info_parts info27
            have hroom24 : l0_3.length ≤ c0_3 := HC0_3.out
            have hC24 : Kd.C k27 _ (some adBG) l0_3.length l0_3 := HR0_3.out
            have hcut24 := cut_to (P := Try.prog) 30 27 .i64 Try.underlying30 hi024 (some adBG) l0_3.length c0_3 x5_1 ofd q24 hroom24
            have hr24 := Kd.C_take (m := (x5_1 : Int).toNat) hC24 (by omega)
            have hy24 : yBK.length = (x5_1 : Int).toNat := (by rw [NyBK.out, List.length_take]; omega)
            rw [← NyBK.out] at hr24
            rw [← hy24] at hcut24
            have HRBN := Am hr24
            have HCBN := Am (show yBK.length ≤ c0_3 from by omega)
            clear hr24 hC24 hroom24 hi024 hsz24
            have KY24 := Am hy24
            clear hy24
            replace q24 := eq_true q24
            refine start_ (n := 10) (S := fun w' => w'.cell? ⟨gbBD, 0, none⟩ = some (.int .i64 a0_0) ∧ w'.cell? ⟨gbBD, 1, none⟩ = some (.int .i64 a0_1) ∧ w'.cell? ⟨gbBD, 2, none⟩ = some (.int .i64 a0_2) ∧ w'.cell? ⟨gbBD, 3, none⟩ = some (.slice (some adBG) l0_3.length c0_3) ∧ w'.cell? ⟨gbBE, 0, none⟩ = some (.int .i64 a1_0) ∧ w'.cell? ⟨gbBE, 1, none⟩ = some (.int .i64 a1_1)) (ds := []) bSpecSqWith_15 (by kernel_rfl) rfl rfl ⟨(blk_cell BKBD.out 0).trans rfl, (blk_cell BKBD.out 1).trans rfl, (blk_cell BKBD.out 2).trans rfl, (blk_cell BKBD.out 3).trans rfl, (blk_cell BKBE.out 0).trans rfl, (blk_cell BKBE.out 1).trans rfl⟩ (fun hHeld => ?_); refine with_tabW spec_sqWith.tab4 spec_sqWith.bits4 (fun HT_ HW_ => ?_)
            generalize w22.drew = w23 at BKBD BKBE BKBF HB HRBN hHeld ⊢
            refine puS 1 27 ?_
            refine puS 3 29 ?_
            refine tkS 2 28 ?_
            refine puS 4 30 ?_
            refine tkS 6 32 ?_
            refine join_ (σ := Value × Value × Value) 2 bSpecSqWith_21 (fun s_ => [(26, s_.1), (31, s_.2.1), (33, s_.2.2)]) (fun s_ w' => (w'.cell? ⟨gbBD, 0, none⟩ = some (.int .i64 a0_0) ∧ w'.cell? ⟨gbBD, 1, none⟩ = some (.int .i64 a0_1) ∧ w'.cell? ⟨gbBD, 2, none⟩ = some (.int .i64 a0_2) ∧ w'.cell? ⟨gbBD, 3, none⟩ = some (.slice (some adBG) l0_3.length c0_3) ∧ w'.cell? ⟨gbBE, 0, none⟩ = some (.int .i64 a1_0) ∧ w'.cell? ⟨gbBE, 1, none⟩ = some (.int .i64 a1_1)) ∧ (Kd.R k27 27 w' w.heap.size (fun k_ => some k_ ≠ (s_.2.2 : Value).ownBlock ∧ k_ ≠ gbBE) s_.2.1 yBO) ∧ (Kd.R k27 27 w' w.heap.size (fun k_ => some k_ ≠ (s_.2.1 : Value).ownBlock ∧ k_ ≠ gbBE) s_.2.2 yBR) ∧ (w'.heap[gbBD]? = some (.cells #[.int .i64 a0_0, .int .i64 a0_1, .int .i64 a0_2, .slice (some adBG) l0_3.length c0_3] 32 (0, 0))) ∧ (w'.heap[gbBE]? = some (.cells #[.int .i64 a1_0, .int .i64 a1_1] 27 (0, 0))) ∧ (w'.heap[gbBF]? = some (.cells #[.int .i64 0, .int .i64 0, .int .i64 0, .slice none 0 0] 32 (0, 0))) ∧ (Below w.heap.size w w')) ?_ ?_
            rotate_left
            ·intro hCont
             refine two_ (i := 0) (j := 7) (Ni := some 26) (Nj := some 33) bSpecSqWith_22 bSpecSqWith_23 rfl rfl rfl rfl (two_of HT_.out (by kernel_rfl)) (by decide) (by decide) (fun K hK => ?_) (fun K hK => ?_)
             ·skip
              refine Kd.R_lit_step k27 _ 27 ?hg (N := 26) ?hd (xs := ([] : List (S27))) (inner := []) (ok := fun _ => True) (okp := fun _ => True) ?hr ?hp (fun _ hk => hk) trivial (Below.refl _ _) (Nat.le_refl _) (by simp) ?_; (case hd => rfl); (case hg => rfl); (case hr => first | (go_simp; done) | (go_simp; rfl)); (case hp => exact (Reps.none _ _))
              intro vBI w25 ho26 hb hg_ hnew_
              clear hg_ hnew_
              (first | rw [← NyBH.out] at ho26 | (simp only [Int.reduceToNat] at ho26; rw [← NyBH.out] at ho26))
              have n0_ := Am (Kd.R_lower (Kd.R_newB ho26 (g := gbBE) (o := .cells #[.int .i64 a1_0, .int .i64 a1_1] 27 (0, 0)) (blk_up BKBE.out)) (below_size belS))
              have n1_ := Am (blk_below (blk_up BKBD.out) hb)
              have n2_ := Am (blk_below (blk_up BKBE.out) hb)
              have n3_ := Am (blk_below (blk_up BKBF.out) hb)
              have n4_ := Am (below_step belS hb)
              clear BKBD
              clear BKBE
              clear BKBF
              clear HB
              have HOBJ := n0_
              have BKBD := n1_
              have BKBE := n2_
              have BKBF := n3_
              have HB := n4_
              clear n0_ n1_ n2_ n3_ n4_
              clear hb ho26
              refine hK.out _ _ ⟨(blk_cell BKBD.out 0).trans rfl, (blk_cell BKBD.out 1).trans rfl, (blk_cell BKBD.out 2).trans rfl, (blk_cell BKBD.out 3).trans rfl, (blk_cell BKBE.out 0).trans rfl, (blk_cell BKBE.out 1).trans rfl⟩ (fun hHeld => ?_)
              clear hK K
              refine norm_ (a' := ?_) ?_ ?_
              rotate_left
              ·show Act.put _ (some 26) _ = _
               simp only [Act.put, sA_, sB_, sC_, i64_w, i32_w]
               rfl
              refine two_ (i := 5) (j := 7) (Ni := some 31) (Nj := some 33) bSpecSqWith_24 bSpecSqWith_25 rfl rfl rfl rfl (two_of HT_.out (by kernel_rfl)) (by decide) (by decide) (fun K hK => ?_) (fun K hK => ?_)
              ·skip
               refine Kd.R_append_rows_step k27 (w0 := w) w.heap.size (by rfl) (.tmp 26) (.tmp 30) 30 27 (.agg #[(.int .i64 0), (.int .i64 0)]) 16 rfl Try.underlying30 info27 rfl (by decide) (by omega) vBI yBH yBK _ _ _ (fun k_ => k_ ≠ gbBE) (fun _ => False) rfl rfl ?aO ?aR (fun _ _ h => h) (fun _ h => h.elim) ?aF ?aB ?aS ?aL ?_
               (case aR => exact Kd.C_up (Kd.C_below HRBN.out HB.out))
               (case aB => exact belS)
               (case aF => exact (fun k_ hk => Kd.freshB (g := gbBE) (o := .cells #[.int .i64 a1_0, .int .i64 a1_1] 27 (0, 0)) (blk_up BKBE.out) k_ hk))
               (case aO => exact (by (with_reducible repeat (first | apply Kd.R_alloc | apply Kd.R_drewN | apply Kd.R_drew)); exact Kd.R_mono HOBJ.out (fun _ hk => hk.2)))
               (case aS => exact (below_size belS))
               (case aL => have := LMc17.out; omega)
               intro vBP w27 ho hb hg hat
               rw [← NyBO.out] at ho
               have n0_ := Am (blk_grown (g := gbBD) (o := .cells #[.int .i64 a0_0, .int .i64 a0_1, .int .i64 a0_2, .slice (some adBG) l0_3.length c0_3] 32 (0, 0)) (blk_up BKBD.out) hg (Kd.R_ne HOBJ.out BKBD.out (by decide)))
               have n1_ := Am (blk_grown (g := gbBE) (o := .cells #[.int .i64 a1_0, .int .i64 a1_1] 27 (0, 0)) (blk_up BKBE.out) hg (Kd.R_away HOBJ.out (fun _ hk => hk.2)))
               have n2_ := Am (blk_grown (g := gbBF) (o := .cells #[.int .i64 0, .int .i64 0, .int .i64 0, .slice none 0 0] 32 (0, 0)) (blk_up BKBF.out) hg (Kd.R_ne HOBJ.out BKBF.out (by decide)))
               have n3_ := Am (hb)
               have n4_ := Am (ho)
               clear BKBD
               clear BKBE
               clear BKBF
               clear HB
               clear HOBJ
               have BKBD := n0_
               have BKBE := n1_
               have BKBF := n2_
               have HB := n3_
               have HOBQ := n4_
               clear n0_ n1_ n2_ n3_ n4_
               clear ho hb hg hat
               refine hK.out _ _ ⟨(blk_cell BKBD.out 0).trans rfl, (blk_cell BKBD.out 1).trans rfl, (blk_cell BKBD.out 2).trans rfl, (blk_cell BKBD.out 3).trans rfl, (blk_cell BKBE.out 0).trans rfl, (blk_cell BKBE.out 1).trans rfl⟩ (fun hHeld => ?_)
               clear hK K
               refine norm_ (a' := ?_) ?_ ?_
               rotate_left
               ·show Act.put _ (some 31) _ = _
                simp only [Act.put, sA_, sB_, sC_, i64_w, i32_w]
                rfl
               refine one_ (i := 7) (N := some 33) bSpecSqWith_21 rfl rfl (one_of HT_.out (by kernel_rfl)) (by decide) (fun K hK => ?_)
               refine Kd.R_lit_step k27 _ 27 ?hg (N := 33) ?hd (xs := ([(⟨a1_0, a1_1⟩ : S27)] : List (S27))) (inner := [.int .i64 a1_0, .int .i64 a1_1]) (ok := fun _ => True) (okp := fun _ => True) ?hr ?hp (fun _ hk => hk) trivial (Below.refl _ _) (Nat.le_refl _) (by simp) ?_; (case hd => rfl); (case hg => rfl); (case hr => first | (go_simp; done) | (go_simp; rfl)); (case hp => exact (Reps.c2 (show Kd.M k27 _ _ _ (⟨a1_0, a1_1⟩ : S27) [.int .i64 a1_0, .int .i64 a1_1] from (k27_mkM _ _ _ (⟨a1_0, a1_1⟩ : S27) )) (Reps.none _ _)))
               intro vBS w28 ho29 hb hg_ hnew_
               clear hg_ hnew_
               (first | rw [← NyBR.out] at ho29 | (simp only [Int.reduceToNat] at ho29; rw [← NyBR.out] at ho29))
               have n0_ := Am (Kd.R_elder' (Kd.R_up HOBQ.out) (Kd.R_base ho29) hb)
               have n1_ := Am (Kd.R_lower (Kd.R_newB (Kd.R_new' ho29 (Kd.R_lt (Kd.R_up HOBQ.out))) (g := gbBE) (o := .cells #[.int .i64 a1_0, .int .i64 a1_1] 27 (0, 0)) (blk_up BKBE.out)) (below_size belS))
               have n2_ := Am (blk_below (blk_up BKBD.out) hb)
               have n3_ := Am (blk_below (blk_up BKBE.out) hb)
               have n4_ := Am (blk_below (blk_up BKBF.out) hb)
               have n5_ := Am (below_step belS hb)
               clear HOBQ
               clear BKBD
               clear BKBE
               clear BKBF
               clear HB
               have HOBQ := n0_
               have HOBT := n1_
               have BKBD := n2_
               have BKBE := n3_
               have BKBF := n4_
               have HB := n5_
               clear n0_ n1_ n2_ n3_ n4_ n5_
               clear hb ho29
               refine hK.out _ _ ⟨(blk_cell BKBD.out 0).trans rfl, (blk_cell BKBD.out 1).trans rfl, (blk_cell BKBD.out 2).trans rfl, (blk_cell BKBD.out 3).trans rfl, (blk_cell BKBE.out 0).trans rfl, (blk_cell BKBE.out 1).trans rfl⟩ (fun hHeld => ?_)
               clear hK K
               refine norm_ (a' := ?_) ?_ ?_
               rotate_left
               ·show Act.put _ (some 33) _ = _
                simp only [Act.put, sA_, sB_, sC_, i64_w, i32_w]
                rfl
               exact norm_ (by simp only [putAll, Act.put, sA_, sB_, sC_]) (hCont (vBI, vBP, vBS) _ ⟨hHeld, (by (with_reducible repeat (first | apply Kd.R_alloc | apply Kd.R_drewN | apply Kd.R_drew)); exact Kd.R_mono HOBQ.out (fun _ hk => ⟨hk.2, hk.1⟩)), (by (with_reducible repeat (first | apply Kd.R_alloc | apply Kd.R_drewN | apply Kd.R_drew)); exact Kd.R_mono HOBT.out (fun _ hk => ⟨hk.1.2, hk.2⟩)), (blk_up BKBD.out), (blk_up BKBE.out), (blk_up BKBF.out), belS⟩)
              ·skip
               refine Kd.R_lit_step k27 _ 27 ?hg (N := 33) ?hd (xs := ([(⟨a1_0, a1_1⟩ : S27)] : List (S27))) (inner := [.int .i64 a1_0, .int .i64 a1_1]) (ok := fun _ => True) (okp := fun _ => True) ?hr ?hp (fun _ hk => hk) trivial (Below.refl _ _) (Nat.le_refl _) (by simp) ?_; (case hd => rfl); (case hg => rfl); (case hr => first | (go_simp; done) | (go_simp; rfl)); (case hp => exact (Reps.c2 (show Kd.M k27 _ _ _ (⟨a1_0, a1_1⟩ : S27) [.int .i64 a1_0, .int .i64 a1_1] from (k27_mkM _ _ _ (⟨a1_0, a1_1⟩ : S27) )) (Reps.none _ _)))
               intro vBS w27 ho28 hb hg_ hnew_
               clear hg_ hnew_
               (first | rw [← NyBR.out] at ho28 | (simp only [Int.reduceToNat] at ho28; rw [← NyBR.out] at ho28))
               have n0_ := Am (Kd.R_elder' (Kd.R_up HOBJ.out) (Kd.R_base ho28) hb)
               have n1_ := Am (Kd.R_lower (Kd.R_newB (Kd.R_new' ho28 (Kd.R_lt (Kd.R_up HOBJ.out))) (g := gbBE) (o := .cells #[.int .i64 a1_0, .int .i64 a1_1] 27 (0, 0)) (blk_up BKBE.out)) (below_size belS))
               have n2_ := Am (blk_below (blk_up BKBD.out) hb)
               have n3_ := Am (blk_below (blk_up BKBE.out) hb)
               have n4_ := Am (blk_below (blk_up BKBF.out) hb)
               have n5_ := Am (below_step belS hb)
               clear HOBJ
               clear BKBD
               clear BKBE
               clear BKBF
               clear HB
               have HOBJ := n0_
               have HOBT := n1_
               have BKBD := n2_
               have BKBE := n3_
               have BKBF := n4_
               have HB := n5_
               clear n0_ n1_ n2_ n3_ n4_ n5_
               clear hb ho28
               refine hK.out _ _ ⟨(blk_cell BKBD.out 0).trans rfl, (blk_cell BKBD.out 1).trans rfl, (blk_cell BKBD.out 2).trans rfl, (blk_cell BKBD.out 3).trans rfl, (blk_cell BKBE.out 0).trans rfl, (blk_cell BKBE.out 1).trans rfl⟩ (fun hHeld => ?_)
               clear hK K
               refine norm_ (a' := ?_) ?_ ?_
               rotate_left
               ·show Act.put _ (some 33) _ = _
                simp only [Act.put, sA_, sB_, sC_, i64_w, i32_w]
                rfl
               refine one_ (i := 5) (N := some 31) bSpecSqWith_21 rfl rfl (one_of HT_.out (by kernel_rfl)) (by decide) (fun K hK => ?_)
               refine Kd.R_append_rows_step k27 (w0 := w) w.heap.size (by rfl) (.tmp 26) (.tmp 30) 30 27 (.agg #[(.int .i64 0), (.int .i64 0)]) 16 rfl Try.underlying30 info27 rfl (by decide) (by omega) vBI yBH yBK _ _ _ (fun k_ => some k_ ≠ (vBS : Value).ownBlock ∧ k_ ≠ gbBE) (fun _ => False) rfl rfl ?aO ?aR (fun _ _ h => h) (fun _ h => h.elim) ?aF ?aB ?aS ?aL ?_
               (case aR => exact Kd.C_up (Kd.C_below HRBN.out HB.out))
               (case aB => exact belS)
               (case aF => exact (fun k_ hk => ⟨Kd.fresh' (Kd.R_lt (Kd.R_up HOBT.out)) k_ hk, Kd.freshB (g := gbBE) (o := .cells #[.int .i64 a1_0, .int .i64 a1_1] 27 (0, 0)) (blk_up BKBE.out) k_ hk⟩))
               (case aO => exact (by (with_reducible repeat (first | apply Kd.R_alloc | apply Kd.R_drewN | apply Kd.R_drew)); exact Kd.R_mono HOBJ.out (fun _ hk => ⟨hk.2, hk.1.2⟩)))
               (case aS => exact (below_size belS))
               (case aL => have := LMc17.out; omega)
               intro vBP w29 ho hb hg hat
               rw [← NyBO.out] at ho
               have n0_ := Am (blk_grown (g := gbBD) (o := .cells #[.int .i64 a0_0, .int .i64 a0_1, .int .i64 a0_2, .slice (some adBG) l0_3.length c0_3] 32 (0, 0)) (blk_up BKBD.out) hg (Kd.R_ne HOBJ.out BKBD.out (by decide)))
               have n1_ := Am (blk_grown (g := gbBE) (o := .cells #[.int .i64 a1_0, .int .i64 a1_1] 27 (0, 0)) (blk_up BKBE.out) hg (Kd.R_away HOBJ.out (fun _ hk => hk.1.2)))
               have n2_ := Am (blk_grown (g := gbBF) (o := .cells #[.int .i64 0, .int .i64 0, .int .i64 0, .slice none 0 0] 32 (0, 0)) (blk_up BKBF.out) hg (Kd.R_ne HOBJ.out BKBF.out (by decide)))
               have n3_ := Am (Kd.R_after (ok := (fun k_ => k_ ≠ gbBE)) (by (with_reducible repeat (first | apply Kd.R_alloc | apply Kd.R_drewN | apply Kd.R_drew)); exact Kd.R_mono HOBT.out (fun _ hk => ⟨hk.2, hk.1.2⟩)) hg hat)
               have n4_ := Am (hb)
               have n5_ := Am (ho)
               clear BKBD
               clear BKBE
               clear BKBF
               clear HOBT
               clear HB
               clear HOBJ
               have BKBD := n0_
               have BKBE := n1_
               have BKBF := n2_
               have HOBT := n3_
               have HB := n4_
               have HOBQ := n5_
               clear n0_ n1_ n2_ n3_ n4_ n5_
               clear ho hb hg hat
               refine hK.out _ _ ⟨(blk_cell BKBD.out 0).trans rfl, (blk_cell BKBD.out 1).trans rfl, (blk_cell BKBD.out 2).trans rfl, (blk_cell BKBD.out 3).trans rfl, (blk_cell BKBE.out 0).trans rfl, (blk_cell BKBE.out 1).trans rfl⟩ (fun hHeld => ?_)
               clear hK K
               refine norm_ (a' := ?_) ?_ ?_
               rotate_left
               ·show Act.put _ (some 31) _ = _
                simp only [Act.put, sA_, sB_, sC_, i64_w, i32_w]
                rfl
               exact norm_ (by simp only [putAll, Act.put, sA_, sB_, sC_]) (hCont (vBI, vBP, vBS) _ ⟨hHeld, (Kd.R_up HOBQ.out), (by (with_reducible repeat (first | apply Kd.R_alloc | apply Kd.R_drewN | apply Kd.R_drew)); exact Kd.R_mono HOBT.out (fun _ hk => ⟨hk.2, hk.1⟩)), (blk_up BKBD.out), (blk_up BKBE.out), (blk_up BKBF.out), belS⟩)
             ·skip
              refine Kd.R_lit_step k27 _ 27 ?hg (N := 33) ?hd (xs := ([(⟨a1_0, a1_1⟩ : S27)] : List (S27))) (inner := [.int .i64 a1_0, .int .i64 a1_1]) (ok := fun _ => True) (okp := fun _ => True) ?hr ?hp (fun _ hk => hk) trivial (Below.refl _ _) (Nat.le_refl _) (by simp) ?_; (case hd => rfl); (case hg => rfl); (case hr => first | (go_simp; done) | (go_simp; rfl)); (case hp => exact (Reps.c2 (show Kd.M k27 _ _ _ (⟨a1_0, a1_1⟩ : S27) [.int .i64 a1_0, .int .i64 a1_1] from (k27_mkM _ _ _ (⟨a1_0, a1_1⟩ : S27) )) (Reps.none _ _)))
              intro vBS w25 ho26 hb hg_ hnew_
              clear hg_ hnew_
              (first | rw [← NyBR.out] at ho26 | (simp only [Int.reduceToNat] at ho26; rw [← NyBR.out] at ho26))
              have n0_ := Am (Kd.R_lower (Kd.R_newB ho26 (g := gbBE) (o := .cells #[.int .i64 a1_0, .int .i64 a1_1] 27 (0, 0)) (blk_up BKBE.out)) (below_size belS))
              have n1_ := Am (blk_below (blk_up BKBD.out) hb)
              have n2_ := Am (blk_below (blk_up BKBE.out) hb)
              have n3_ := Am (blk_below (blk_up BKBF.out) hb)
              have n4_ := Am (below_step belS hb)
              clear BKBD
              clear BKBE
              clear BKBF
              clear HB
              have HOBT := n0_
              have BKBD := n1_
              have BKBE := n2_
              have BKBF := n3_
              have HB := n4_
              clear n0_ n1_ n2_ n3_ n4_
              clear hb ho26
              refine hK.out _ _ ⟨(blk_cell BKBD.out 0).trans rfl, (blk_cell BKBD.out 1).trans rfl, (blk_cell BKBD.out 2).trans rfl, (blk_cell BKBD.out 3).trans rfl, (blk_cell BKBE.out 0).trans rfl, (blk_cell BKBE.out 1).trans rfl⟩ (fun hHeld => ?_)
              clear hK K
              refine norm_ (a' := ?_) ?_ ?_
              rotate_left
              ·show Act.put _ (some 33) _ = _
               simp only [Act.put, sA_, sB_, sC_, i64_w, i32_w]
               rfl
              refine one_ (i := 0) (N := some 26) bSpecSqWith_25 rfl rfl (one_of HT_.out (by kernel_rfl)) (by decide) (fun K hK => ?_)
              refine Kd.R_lit_step k27 _ 27 ?hg (N := 26) ?hd (xs := ([] : List (S27))) (inner := []) (ok := fun _ => True) (okp := fun _ => True) ?hr ?hp (fun _ hk => hk) trivial (Below.refl _ _) (Nat.le_refl _) (by simp) ?_; (case hd => rfl); (case hg => rfl); (case hr => first | (go_simp; done) | (go_simp; rfl)); (case hp => exact (Reps.none _ _))
              intro vBI w27 ho28 hb hg_ hnew_
              clear hg_ hnew_
              (first | rw [← NyBH.out] at ho28 | (simp only [Int.reduceToNat] at ho28; rw [← NyBH.out] at ho28))
              have n0_ := Am (Kd.R_elder' (Kd.R_up HOBT.out) (Kd.R_base ho28) hb)
              have n1_ := Am (Kd.R_lower (Kd.R_newB (Kd.R_new' ho28 (Kd.R_lt (Kd.R_up HOBT.out))) (g := gbBE) (o := .cells #[.int .i64 a1_0, .int .i64 a1_1] 27 (0, 0)) (blk_up BKBE.out)) (below_size belS))
              have n2_ := Am (blk_below (blk_up BKBD.out) hb)
              have n3_ := Am (blk_below (blk_up BKBE.out) hb)
              have n4_ := Am (blk_below (blk_up BKBF.out) hb)
              have n5_ := Am (below_step belS hb)
              clear HOBT
              clear BKBD
              clear BKBE
              clear BKBF
              clear HB
              have HOBT := n0_
              have HOBJ := n1_
              have BKBD := n2_
              have BKBE := n3_
              have BKBF := n4_
              have HB := n5_
              clear n0_ n1_ n2_ n3_ n4_ n5_
              clear hb ho28
              refine hK.out _ _ ⟨(blk_cell BKBD.out 0).trans rfl, (blk_cell BKBD.out 1).trans rfl, (blk_cell BKBD.out 2).trans rfl, (blk_cell BKBD.out 3).trans rfl, (blk_cell BKBE.out 0).trans rfl, (blk_cell BKBE.out 1).trans rfl⟩ (fun hHeld => ?_)
              clear hK K
              refine norm_ (a' := ?_) ?_ ?_
              rotate_left
              ·show Act.put _ (some 26) _ = _
               simp only [Act.put, sA_, sB_, sC_, i64_w, i32_w]
               rfl
              refine one_ (i := 5) (N := some 31) bSpecSqWith_21 rfl rfl (one_of HT_.out (by kernel_rfl)) (by decide) (fun K hK => ?_)
              refine Kd.R_append_rows_step k27 (w0 := w) w.heap.size (by rfl) (.tmp 26) (.tmp 30) 30 27 (.agg #[(.int .i64 0), (.int .i64 0)]) 16 rfl Try.underlying30 info27 rfl (by decide) (by omega) vBI yBH yBK _ _ _ (fun k_ => some k_ ≠ (vBS : Value).ownBlock ∧ k_ ≠ gbBE) (fun _ => False) rfl rfl ?aO ?aR (fun _ _ h => h) (fun _ h => h.elim) ?aF ?aB ?aS ?aL ?_
              (case aR => exact Kd.C_up (Kd.C_below HRBN.out HB.out))
              (case aB => exact belS)
              (case aF => exact (fun k_ hk => ⟨Kd.fresh' (Kd.R_lt (Kd.R_up HOBT.out)) k_ hk, Kd.freshB (g := gbBE) (o := .cells #[.int .i64 a1_0, .int .i64 a1_1] 27 (0, 0)) (blk_up BKBE.out) k_ hk⟩))
              (case aO => exact (by (with_reducible repeat (first | apply Kd.R_alloc | apply Kd.R_drewN | apply Kd.R_drew)); exact Kd.R_mono HOBJ.out (fun _ hk => ⟨hk.1.2, hk.2⟩)))
              (case aS => exact (below_size belS))
              (case aL => have := LMc17.out; omega)
              intro vBP w29 ho hb hg hat
              rw [← NyBO.out] at ho
              have n0_ := Am (blk_grown (g := gbBD) (o := .cells #[.int .i64 a0_0, .int .i64 a0_1, .int .i64 a0_2, .slice (some adBG) l0_3.length c0_3] 32 (0, 0)) (blk_up BKBD.out) hg (Kd.R_ne HOBJ.out BKBD.out (by decide)))
              have n1_ := Am (blk_grown (g := gbBE) (o := .cells #[.int .i64 a1_0, .int .i64 a1_1] 27 (0, 0)) (blk_up BKBE.out) hg (Kd.R_away HOBJ.out (fun _ hk => hk.2)))
              have n2_ := Am (blk_grown (g := gbBF) (o := .cells #[.int .i64 0, .int .i64 0, .int .i64 0, .slice none 0 0] 32 (0, 0)) (blk_up BKBF.out) hg (Kd.R_ne HOBJ.out BKBF.out (by decide)))
              have n3_ := Am (Kd.R_after (ok := (fun k_ => k_ ≠ gbBE)) (by (with_reducible repeat (first | apply Kd.R_alloc | apply Kd.R_drewN | apply Kd.R_drew)); exact Kd.R_mono HOBT.out (fun _ hk => ⟨hk.1.2, hk.2⟩)) hg hat)
              have n4_ := Am (hb)
              have n5_ := Am (ho)
              clear BKBD
              clear BKBE
              clear BKBF
              clear HOBT
              clear HB
              clear HOBJ
              have BKBD := n0_
              have BKBE := n1_
              have BKBF := n2_
              have HOBT := n3_
              have HB := n4_
              have HOBQ := n5_
              clear n0_ n1_ n2_ n3_ n4_ n5_
              clear ho hb hg hat
              refine hK.out _ _ ⟨(blk_cell BKBD.out 0).trans rfl, (blk_cell BKBD.out 1).trans rfl, (blk_cell BKBD.out 2).trans rfl, (blk_cell BKBD.out 3).trans rfl, (blk_cell BKBE.out 0).trans rfl, (blk_cell BKBE.out 1).trans rfl⟩ (fun hHeld => ?_)
              clear hK K
              refine norm_ (a' := ?_) ?_ ?_
              rotate_left
              ·show Act.put _ (some 31) _ = _
               simp only [Act.put, sA_, sB_, sC_, i64_w, i32_w]
               rfl
              exact norm_ (by simp only [putAll, Act.put, sA_, sB_, sC_]) (hCont (vBI, vBP, vBS) _ ⟨hHeld, (Kd.R_up HOBQ.out), (by (with_reducible repeat (first | apply Kd.R_alloc | apply Kd.R_drewN | apply Kd.R_drew)); exact Kd.R_mono HOBT.out (fun _ hk => ⟨hk.2, hk.1⟩)), (blk_up BKBD.out), (blk_up BKBE.out), (blk_up BKBF.out), belS⟩)
            rintro ⟨vBI, vBP, vBS⟩ w30 ⟨hS_, h0_, h1_, h2_, h3_, h4_, h5_⟩
            have n0_ : Aside0 (Kd.R k27 27 w30 w.heap.size (fun k_ => some k_ ≠ (vBS : Value).ownBlock ∧ k_ ≠ gbBE) vBP yBO) := ⟨h0_⟩
            have n1_ : Aside0 (Kd.R k27 27 w30 w.heap.size (fun k_ => some k_ ≠ (vBP : Value).ownBlock ∧ k_ ≠ gbBE) vBS yBR) := ⟨h1_⟩
            have n2_ : Aside0 (w30.heap[gbBD]? = some (.cells #[.int .i64 a0_0, .int .i64 a0_1, .int .i64 a0_2, .slice (some adBG) l0_3.length c0_3] 32 (0, 0))) := ⟨h2_⟩
            have n3_ : Aside0 (w30.heap[gbBE]? = some (.cells #[.int .i64 a1_0, .int .i64 a1_1] 27 (0, 0))) := ⟨h3_⟩
            have n4_ : Aside0 (w30.heap[gbBF]? = some (.cells #[.int .i64 0, .int .i64 0, .int .i64 0, .slice none 0 0] 32 (0, 0))) := ⟨h4_⟩
            have n5_ : Aside0 (Below w.heap.size w w30) := ⟨h5_⟩
            clear BKBD
            clear BKBE
            clear BKBF
            clear HB
            clear h0_ h1_ h2_ h3_ h4_ h5_
            have HOBQ := n0_
            have HOBT := n1_
            have BKBD := n2_
            have BKBE := n3_
            have BKBF := n4_
            have HB := n5_
            clear n0_ n1_ n2_ n3_ n4_ n5_
            have hHeld : w30.cell? ⟨gbBD, 0, none⟩ = some (.int .i64 a0_0) ∧ w30.cell? ⟨gbBD, 1, none⟩ = some (.int .i64 a0_1) ∧ w30.cell? ⟨gbBD, 2, none⟩ = some (.int .i64 a0_2) ∧ w30.cell? ⟨gbBD, 3, none⟩ = some (.slice (some adBG) l0_3.length c0_3) ∧ w30.cell? ⟨gbBE, 0, none⟩ = some (.int .i64 a1_0) ∧ w30.cell? ⟨gbBE, 1, none⟩ = some (.int .i64 a1_1) := hS_
            obtain ⟨Ao32, co32, eo32⟩ := Kd.R_slice HOBT.out
            (first | subst eo32 | (injection eo32 with f1_ f2_ f3_; have f4_ := f1_.symm; have f5_ := f3_.symm; clear f1_ f2_ f3_; subst f4_; subst f5_))
            refine norm_ (a' := ?_) ?_ ?_
            rotate_left
            ·simp only [putAll, Act.put, sA_, sB_, sC_]
             rfl
            refine one_ (i := 8) (N := some 34) bSpecSqWith_26 rfl rfl (one_of HT_.out (by kernel_rfl)) (by decide) (fun K hK => ?_)
            refine Kd.R_append_rows_step k27 (w0 := w) w.heap.size (by rfl) (.tmp 31) (.tmp 33) 30 27 (.agg #[(.int .i64 0), (.int .i64 0)]) 16 rfl Try.underlying30 info27 rfl (by decide) (by omega) vBP yBO yBR _ _ _ (fun k_ => some k_ ≠ (.slice Ao32 yBR.length co32 : Value).ownBlock ∧ k_ ≠ gbBE) (fun _ => False) rfl rfl ?aO ?aR (fun _ _ h => h) (fun _ h => h.elim) ?aF ?aB ?aS ?aL ?_
            (case aR => exact Kd.C_up (Kd.R_reads' HOBT.out).2.2)
            (case aB => exact belS)
            (case aF => exact (fun k_ hk => ⟨Kd.fresh' (Kd.R_lt (Kd.R_up HOBT.out)) k_ hk, Kd.freshB (g := gbBE) (o := .cells #[.int .i64 a1_0, .int .i64 a1_1] 27 (0, 0)) (blk_up BKBE.out) k_ hk⟩))
            (case aO => exact (Kd.R_up HOBQ.out))
            (case aS => exact (below_size belS))
            (case aL => have := LMc18.out; omega)
            intro vBV w31 ho hb hg hat
            rw [← NyBU.out] at ho
            have n0_ := Am (blk_grown (g := gbBD) (o := .cells #[.int .i64 a0_0, .int .i64 a0_1, .int .i64 a0_2, .slice (some adBG) l0_3.length c0_3] 32 (0, 0)) (blk_up BKBD.out) hg (Kd.R_ne HOBQ.out BKBD.out (by decide)))
            have n1_ := Am (blk_grown (g := gbBE) (o := .cells #[.int .i64 a1_0, .int .i64 a1_1] 27 (0, 0)) (blk_up BKBE.out) hg (Kd.R_away HOBQ.out (fun _ hk => hk.2)))
            have n2_ := Am (blk_grown (g := gbBF) (o := .cells #[.int .i64 0, .int .i64 0, .int .i64 0, .slice none 0 0] 32 (0, 0)) (blk_up BKBF.out) hg (Kd.R_ne HOBQ.out BKBF.out (by decide)))
            have n3_ := Am (Kd.R_after (ok := (fun k_ => k_ ≠ gbBE)) (by (with_reducible repeat (first | apply Kd.R_alloc | apply Kd.R_drewN | apply Kd.R_drew)); exact Kd.R_mono HOBT.out (fun _ hk => ⟨hk.2, hk.1⟩)) hg hat)
            have n4_ := Am (hb)
            have n5_ := Am (ho)
            clear BKBD
            clear BKBE
            clear BKBF
            clear HOBT
            clear HB
            clear HOBQ
            have BKBD := n0_
            have BKBE := n1_
            have BKBF := n2_
            have HOBT := n3_
            have HB := n4_
            have HOBW := n5_
            clear n0_ n1_ n2_ n3_ n4_ n5_
            clear ho hb hg hat
            refine hK.out _ _ ⟨(blk_cell BKBD.out 0).trans rfl, (blk_cell BKBD.out 1).trans rfl, (blk_cell BKBD.out 2).trans rfl, (blk_cell BKBD.out 3).trans rfl, (blk_cell BKBE.out 0).trans rfl, (blk_cell BKBE.out 1).trans rfl⟩ (fun hHeld => ?_)
            clear hK K
            refine norm_ (a' := ?_) ?_ ?_
            rotate_left
            ·show Act.put _ (some 34) _ = _
             simp only [Act.put, sA_, sB_, sC_, i64_w, i32_w]
             rfl
            refine puS 9 6 ?_
            refine done_ (done_of HT_.out (by kernel_rfl)) ?_
            try go_wp2
            have n0_ := Am (Kd.R_drew HOBT.out)
            have n1_ := Am (Kd.R_drew HOBW.out)
            have n2_ := Am (blk_drew BKBD.out)
            have n3_ := Am (blk_drew BKBE.out)
            have n4_ := Am (blk_drew BKBF.out)
            have n5_ := Am (below_drew1 HB.out)
            clear HOBT
            clear HOBW
            clear BKBD
            clear BKBE
            clear BKBF
            clear HB
            have HOBT := n0_
            have HOBW := n1_
            have BKBD := n2_
            have BKBE := n3_
            have BKBF := n4_
            have HB := n5_
            clear n0_ n1_ n2_ n3_ n4_ n5_
            have q34 : (x5_1 : Int) ≤ ((l0_3.length : Int) : Int) := ofd
            obtain ⟨i034, hi034, _, hsz34, _⟩ := info_parts info27
            have hroom34 : l0_3.length ≤ c0_3 := HC0_3.out
            have hC34 : Kd.C k27 _ (some adBG) l0_3.length l0_3 := HR0_3.out
            have q034 : (0 : Int) ≤ (x5_1 : Int) := ofd
            have hcut34 := cut_from (P := Try.prog) 30 27 .i64 Try.underlying30 hi034 2 hsz34 (some adBG) l0_3.length c0_3 x5_1 q034 q34
            have hr34 := Kd.C_drop (m := (x5_1 : Int).toNat) (c := c0_3) hC34 (by omega) hroom34
            obtain ⟨A34, hA34⟩ : ∃ A1, A1 = (if c0_3 = (x5_1 : Int).toNat then (some adBG) else ((some adBG) : Option Addr).map (·.add ((x5_1 : Int).toNat * 2))) := ⟨_, rfl⟩
            obtain ⟨c34, hc34⟩ : ∃ c1, c1 = c0_3 - (x5_1 : Int).toNat := ⟨_, rfl⟩
            have hy34 : yBX.length = l0_3.length - (x5_1 : Int).toNat := (by rw [NyBX.out, List.length_drop] <;> omega)
            rw [show (l0_3).drop (x5_1 : Int).toNat = yBX from NyBX.out.symm] at hr34
            replace hr34 : Kd.C k27 _ A34 yBX.length yBX := (by rw [hA34]; exact hr34)
            rw [← hy34, ← hA34, ← hc34] at hcut34
            have HRC0 := Am hr34
            have HCC0 := Am (show yBX.length ≤ c34 from by rw [hy34, hc34]; exact Nat.sub_le_sub_right hroom34 _)
            clear hr34 hC34 hroom34 hi034 hsz34 hc34
            have KY34 := Am hy34
            have KA34 := Am hA34
            clear hy34 hA34
            replace q34 := eq_true q34
            refine start_ (n := 14) (S := fun w' => w'.cell? ⟨gbBD, 0, none⟩ = some (.int .i64 a0_0) ∧ w'.cell? ⟨gbBD, 1, none⟩ = some (.int .i64 a0_1) ∧ w'.cell? ⟨gbBD, 2, none⟩ = some (.int .i64 a0_2) ∧ w'.cell? ⟨gbBD, 3, none⟩ = some (.slice (some adBG) l0_3.length c0_3)) (ds := []) bSpecSqWith_0 (by kernel_rfl) rfl rfl ⟨(blk_cell BKBD.out 0).trans rfl, (blk_cell BKBD.out 1).trans rfl, (blk_cell BKBD.out 2).trans rfl, (blk_cell BKBD.out 3).trans rfl⟩ (fun hHeld => ?_); refine with_tabW spec_sqWith.tab5 spec_sqWith.bits5 (fun HT_ HW_ => ?_)
            generalize w31.drew = w33 at HOBT HOBW BKBD BKBE BKBF HB HRC0 hHeld ⊢
            refine puS 0 35 ?_
            refine puS 2 37 ?_
            refine puS 4 39 ?_
            refine puS 6 41 ?_
            refine puS 7 42 ?_
            refine puS 9 44 ?_
            refine tkS 1 36 ?_
            refine tkS 3 38 ?_
            refine tkS 5 40 ?_
            refine tkS 8 43 ?_
            refine puS 10 45 ?_
            refine one_ (i := 11) (N := some 46) bSpecSqWith_12 rfl rfl (one_of HT_.out (by kernel_rfl)) (by decide) (fun K hK => ?_)
            refine Kd.R_append_rows_step k27 (w0 := w) w.heap.size (by rfl) (.tmp 41) (.tmp 45) 30 27 (.agg #[(.int .i64 0), (.int .i64 0)]) 16 rfl Try.underlying30 info27 rfl (by decide) (by omega) vBV yBU yBX _ _ _ (fun k_ => some k_ ≠ (.slice Ao32 yBR.length co32 : Value).ownBlock ∧ k_ ≠ gbBE) (fun _ => False) rfl rfl ?aO ?aR (fun _ _ h => h) (fun _ h => h.elim) ?aF ?aB ?aS ?aL ?_
            (case aR => exact Kd.C_up (Kd.C_below HRC0.out HB.out))
            (case aB => exact belS)
            (case aF => exact (fun k_ hk => ⟨Kd.fresh' (Kd.R_lt (Kd.R_up HOBT.out)) k_ hk, Kd.freshB (g := gbBE) (o := .cells #[.int .i64 a1_0, .int .i64 a1_1] 27 (0, 0)) (blk_up BKBE.out) k_ hk⟩))
            (case aO => exact (Kd.R_up HOBW.out))
            (case aS => exact (below_size belS))
            (case aL => have := LMc21.out; omega)
            intro vC2 w35 ho hb hg hat
            rw [← NyC1.out] at ho
            have n0_ := Am (blk_grown (g := gbBD) (o := .cells #[.int .i64 a0_0, .int .i64 a0_1, .int .i64 a0_2, .slice (some adBG) l0_3.length c0_3] 32 (0, 0)) (blk_up BKBD.out) hg (Kd.R_ne HOBW.out BKBD.out (by decide)))
            have n1_ := Am (blk_grown (g := gbBE) (o := .cells #[.int .i64 a1_0, .int .i64 a1_1] 27 (0, 0)) (blk_up BKBE.out) hg (Kd.R_away HOBW.out (fun _ hk => hk.2)))
            have n2_ := Am (blk_grown (g := gbBF) (o := .cells #[.int .i64 0, .int .i64 0, .int .i64 0, .slice none 0 0] 32 (0, 0)) (blk_up BKBF.out) hg (Kd.R_ne HOBW.out BKBF.out (by decide)))
            have n3_ := Am (Kd.R_after (ok := (fun k_ => k_ ≠ gbBE)) (Kd.R_up HOBT.out) hg hat)
            have n4_ := Am (hb)
            have n5_ := Am (ho)
            clear BKBD
            clear BKBE
            clear BKBF
            clear HOBT
            clear HB
            clear HOBW
            have BKBD := n0_
            have BKBE := n1_
            have BKBF := n2_
            have HOBT := n3_
            have HB := n4_
            have HOC3 := n5_
            clear n0_ n1_ n2_ n3_ n4_ n5_
            clear ho hb hg hat
            obtain ⟨Ao36, co36, eo36⟩ := Kd.R_slice HOC3.out
            (first | subst eo36 | (injection eo36 with f1_ f2_ f3_; have f4_ := f1_.symm; have f5_ := f3_.symm; clear f1_ f2_ f3_; subst f4_; subst f5_))
            refine hK.out _ _ ⟨(blk_cell BKBD.out 0).trans rfl, (blk_cell BKBD.out 1).trans rfl, (blk_cell BKBD.out 2).trans rfl, (blk_cell BKBD.out 3).trans rfl⟩ (fun hHeld => ?_)
            clear hK K
            refine norm_ (a' := ?_) ?_ ?_
            rotate_left
            ·show Act.put _ (some 46) _ = _
             simp only [Act.put, sA_, sB_, sC_, i64_w, i32_w]
             rfl
            refine puS 12 47 ?_
            refine one_ (i := 13) (N := none) bSpecSqWith_14 rfl rfl (one_of HT_.out (by kernel_rfl)) (by decide) (fun K hK => ?_)
            have hs37 : w35.cell? ⟨gbBF, 0, none⟩ = some (.int .i64 0) := (blk_cell BKBF.out 0).trans rfl
            have hfs37 := blk_frozen BKBF.out 0
            have hns37_0 := NBBD_BF.out
            have hns37_1 := NBBE_BF.out
            have hms37_0 := NBBF_BD.out
            have hms37_1 := NBBF_BE.out
            have hs38 : w35.cell? ⟨gbBF, 1, none⟩ = some (.int .i64 0) := (blk_cell BKBF.out 1).trans rfl
            have hfs38 := blk_frozen BKBF.out 1
            have hns38_0 := NBBD_BF.out
            have hns38_1 := NBBE_BF.out
            have hms38_0 := NBBF_BD.out
            have hms38_1 := NBBF_BE.out
            have hs39 : w35.cell? ⟨gbBF, 2, none⟩ = some (.int .i64 0) := (blk_cell BKBF.out 2).trans rfl
            have hfs39 := blk_frozen BKBF.out 2
            have hns39_0 := NBBD_BF.out
            have hns39_1 := NBBE_BF.out
            have hms39_0 := NBBF_BD.out
            have hms39_1 := NBBF_BE.out
            have hs40 : w35.cell? ⟨gbBF, 3, none⟩ = some (.slice none 0 0) := (blk_cell BKBF.out 3).trans rfl
            have hfs40 := blk_frozen BKBF.out 3
            have hns40_0 := NBBD_BF.out
            have hns40_1 := NBBE_BF.out
            have hms40_0 := NBBF_BD.out
            have hms40_1 := NBBF_BE.out
            refine skip_ (w1 := ?_) (by rfl) rfl ?_ ?_
            rotate_left
            ·go_simp
             rfl
            refine hK.out _ _ ⟨((cell_far (p := ⟨gbBF, _, none⟩) NBBD_BF.out _).trans (((cell_far (p := ⟨gbBF, _, none⟩) NBBD_BF.out _).trans (((cell_far (p := ⟨gbBF, _, none⟩) NBBD_BF.out _).trans (((cell_far (p := ⟨gbBF, _, none⟩) NBBD_BF.out _).trans (hHeld.1)))))))), ((cell_far (p := ⟨gbBF, _, none⟩) NBBD_BF.out _).trans (((cell_far (p := ⟨gbBF, _, none⟩) NBBD_BF.out _).trans (((cell_far (p := ⟨gbBF, _, none⟩) NBBD_BF.out _).trans (((cell_far (p := ⟨gbBF, _, none⟩) NBBD_BF.out _).trans (hHeld.2.1)))))))), ((cell_far (p := ⟨gbBF, _, none⟩) NBBD_BF.out _).trans (((cell_far (p := ⟨gbBF, _, none⟩) NBBD_BF.out _).trans (((cell_far (p := ⟨gbBF, _, none⟩) NBBD_BF.out _).trans (((cell_far (p := ⟨gbBF, _, none⟩) NBBD_BF.out _).trans (hHeld.2.2.1)))))))), ((cell_far (p := ⟨gbBF, _, none⟩) NBBD_BF.out _).trans (((cell_far (p := ⟨gbBF, _, none⟩) NBBD_BF.out _).trans (((cell_far (p := ⟨gbBF, _, none⟩) NBBD_BF.out _).trans (((cell_far (p := ⟨gbBF, _, none⟩) NBBD_BF.out _).trans (hHeld.2.2.2))))))))⟩ (fun hHeld => ?_)
            clear hK K
            refine done_ (done_of HT_.out (by kernel_rfl)) ?_
            try go_wp2
            refine bodyPost_ret (results_cell_row rfl _ _ gbBF 32 #[.int .i64 a0_0, .int .i64 a0_1, .int .i64 a0_2, .slice Ao36 yC1.length co36] (0, 0) _ rfl (by (with_reducible repeat (first | refine blk_drewN ?_ _ | refine blk_drew ?_ | refine blk_alloc ?_ _)); refine blk_put (cs := #[.int .i64 a0_0, .int .i64 a0_1, .int .i64 a0_2, .slice none 0 0]) ?_ 3 _ rfl; refine blk_put (cs := #[.int .i64 a0_0, .int .i64 a0_1, .int .i64 0, .slice none 0 0]) ?_ 2 _ rfl; refine blk_put (cs := #[.int .i64 a0_0, .int .i64 0, .int .i64 0, .slice none 0 0]) ?_ 1 _ rfl; refine blk_putU (cs := #[.int .i64 0, .int .i64 0, .int .i64 0, .slice none 0 0]) ?_ 0 _ rfl; exact BKBF.out) Try.underlying32 rfl (by kernel_rfl)) rfl ?_
            exact ⟨_, by first | rfl | (simp [errW_none, errW_some] <;> rfl) | (simp only [← hji10]; first | rfl | (simp [errW_none, errW_some] <;> rfl)) | (simp [*, errW_none, errW_some] <;> rfl), by (with_reducible repeat (first | apply Kd.R_alloc | apply Kd.R_drewN | apply Kd.R_drew)); exact Kd.R_mono (Kd.R_far (p := ⟨gbBF, 3, none⟩) (Kd.R_far (p := ⟨gbBF, 2, none⟩) (Kd.R_far (p := ⟨gbBF, 1, none⟩) (Kd.R_far (p := ⟨gbBF, 0, none⟩) (Kd.R_types HOC3.out BKBF.out (by decide)) (fun _ hk => hk.2) (.int .i64 a0_0)) (fun _ hk => hk.2) (.int .i64 a0_1)) (fun _ hk => hk.2) (.int .i64 a0_2)) (fun _ hk => hk.2) (.slice Ao36 yC1.length co36)) (fun _ hk => trivial), by exact belS⟩
           ·rw [if_neg c21] at H
            exact absurd H (by simp)
          ·rw [if_neg c18] at H
           exact absurd H (by simp)
         ·rw [if_neg c17] at H
          exact absurd H (by simp)
        ·rw [if_neg c16] at H
         exact absurd H (by simp)
       ·rw [if_neg c15] at H
        exact absurd H (by simp)
     ·rw [if_neg c12] at H
      exact absurd H (by simp)
    ·rw [if_neg c11] at H
     exact absurd H (by simp)
   ·rw [if_neg c9] at H
    have c9b0 : decide (0 < x5_1) = false := decide_eq_false c9
    clear c9
    obtain ⟨yC4, hyC4⟩ : ∃ y_ : List (S27), y_ = (([] : List (S27))) := ⟨_, rfl⟩
    replace H : (if 0 ≤ x5_1 then (if x5_1 ≤ (l0_3.length : Int) then ((some (l0_3.take (x5_1 : Int).toNat : List (S27))).bind fun yC7 => (if yC4.length + yC7.length < 8796093022208 then ((some (yC4 ++ yC7 : List (S27))).bind fun yCb => ((some (([(⟨a1_0, a1_1⟩ : S27)] : List (S27)) : List (S27))).bind fun yCe => (if yCb.length + yCe.length < 8796093022208 then ((some (yCb ++ yCe : List (S27))).bind fun yCh => ((some (l0_3.drop (x5_1 : Int).toNat : List (S27))).bind fun yCk => (if yCh.length + yCk.length < 8796093022208 then (some (a0_0, a0_1, a0_2, (yCh ++ yCk))) else (none)))) else (none)))) else (none))) else (none)) else (none)) = some (r1, r2, r3, r4) := by first | (rw [hyC4]; with_reducible exact H) | (have H2_ := (Option.bind_some _ _).symm.trans H; rw [hyC4]; with_reducible exact H2_) | (have H2_ := (Option.bind_some _ _).symm.trans H; with_reducible exact H2_) | with_reducible exact H | (rw [hyC4]; exact H) | exact H
    have NyC4 := Am hyC4
    clear hyC4
    by_cases c41 : 0 ≤ x5_1
    ·rw [if_pos c41] at H
     have c41b0 := eq_true c41
     have c41b1 : decide (0 ≤ x5_1) = true := decide_eq_true c41
     clear c41
     by_cases c42 : x5_1 ≤ (l0_3.length : Int)
     ·rw [if_pos c42] at H
      have c42b0 := eq_true c42
      have c42b1 : decide (x5_1 ≤ (l0_3.length : Int)) = true := decide_eq_true c42
      clear c42
      obtain ⟨yC7, hyC7⟩ : ∃ y_ : List (S27), y_ = (l0_3.take (x5_1 : Int).toNat) := ⟨_, rfl⟩
      replace H : (if yC4.length + yC7.length < 8796093022208 then ((some (yC4 ++ yC7 : List (S27))).bind fun yCb => ((some (([(⟨a1_0, a1_1⟩ : S27)] : List (S27)) : List (S27))).bind fun yCe => (if yCb.length + yCe.length < 8796093022208 then ((some (yCb ++ yCe : List (S27))).bind fun yCh => ((some (l0_3.drop (x5_1 : Int).toNat : List (S27))).bind fun yCk => (if yCh.length + yCk.length < 8796093022208 then (some (a0_0, a0_1, a0_2, (yCh ++ yCk))) else (none)))) else (none)))) else (none)) = some (r1, r2, r3, r4) := by first | (rw [hyC7]; with_reducible exact H) | (have H2_ := (Option.bind_some _ _).symm.trans H; rw [hyC7]; with_reducible exact H2_) | (have H2_ := (Option.bind_some _ _).symm.trans H; with_reducible exact H2_) | with_reducible exact H | (rw [hyC7]; exact H) | exact H
      have NyC7 := Am hyC7
      clear hyC7
      by_cases c43 : yC4.length + yC7.length < 8796093022208
      ·rw [if_pos c43] at H
       have LMc43 := Am c43
       clear c43
       obtain ⟨yCb, hyCb⟩ : ∃ y_ : List (S27), y_ = (yC4 ++ yC7) := ⟨_, rfl⟩
       replace H : ((some (([(⟨a1_0, a1_1⟩ : S27)] : List (S27)) : List (S27))).bind fun yCe => (if yCb.length + yCe.length < 8796093022208 then ((some (yCb ++ yCe : List (S27))).bind fun yCh => ((some (l0_3.drop (x5_1 : Int).toNat : List (S27))).bind fun yCk => (if yCh.length + yCk.length < 8796093022208 then (some (a0_0, a0_1, a0_2, (yCh ++ yCk))) else (none)))) else (none))) = some (r1, r2, r3, r4) := by first | (rw [hyCb]; with_reducible exact H) | (have H2_ := (Option.bind_some _ _).symm.trans H; rw [hyCb]; with_reducible exact H2_) | (have H2_ := (Option.bind_some _ _).symm.trans H; with_reducible exact H2_) | with_reducible exact H | (rw [hyCb]; exact H) | exact H
       have NyCb := Am hyCb
       clear hyCb
       obtain ⟨yCe, hyCe⟩ : ∃ y_ : List (S27), y_ = (([(⟨a1_0, a1_1⟩ : S27)] : List (S27))) := ⟨_, rfl⟩
       replace H : (if yCb.length + yCe.length < 8796093022208 then ((some (yCb ++ yCe : List (S27))).bind fun yCh => ((some (l0_3.drop (x5_1 : Int).toNat : List (S27))).bind fun yCk => (if yCh.length + yCk.length < 8796093022208 then (some (a0_0, a0_1, a0_2, (yCh ++ yCk))) else (none)))) else (none)) = some (r1, r2, r3, r4) := by first | (rw [hyCe]; with_reducible exact H) | (have H2_ := (Option.bind_some _ _).symm.trans H; rw [hyCe]; with_reducible exact H2_) | (have H2_ := (Option.bind_some _ _).symm.trans H; with_reducible exact H2_) | with_reducible exact H | (rw [hyCe]; exact H) | exact H
       have NyCe := Am hyCe
       clear hyCe
       by_cases c44 : yCb.length + yCe.length < 8796093022208
       ·rw [if_pos c44] at H
        have LMc44 := Am c44
        clear c44
        obtain ⟨yCh, hyCh⟩ : ∃ y_ : List (S27), y_ = (yCb ++ yCe) := ⟨_, rfl⟩
        replace H : ((some (l0_3.drop (x5_1 : Int).toNat : List (S27))).bind fun yCk => (if yCh.length + yCk.length < 8796093022208 then (some (a0_0, a0_1, a0_2, (yCh ++ yCk))) else (none))) = some (r1, r2, r3, r4) := by first | (rw [hyCh]; with_reducible exact H) | (have H2_ := (Option.bind_some _ _).symm.trans H; rw [hyCh]; with_reducible exact H2_) | (have H2_ := (Option.bind_some _ _).symm.trans H; with_reducible exact H2_) | with_reducible exact H | (rw [hyCh]; exact H) | exact H
        have NyCh := Am hyCh
        clear hyCh
        have c45b0 := eq_true (ofd : 0 ≤ x5_1)
        have c46b0 := eq_true (ofd : x5_1 ≤ (l0_3.length : Int))
        obtain ⟨yCk, hyCk⟩ : ∃ y_ : List (S27), y_ = (l0_3.drop (x5_1 : Int).toNat) := ⟨_, rfl⟩
        replace H : (if yCh.length + yCk.length < 8796093022208 then (some (a0_0, a0_1, a0_2, (yCh ++ yCk))) else (none)) = some (r1, r2, r3, r4) := by first | (rw [hyCk]; with_reducible exact H) | (have H2_ := (Option.bind_some _ _).symm.trans H; rw [hyCk]; with_reducible exact H2_) | (have H2_ := (Option.bind_some _ _).symm.trans H; with_reducible exact H2_) | with_reducible exact H | (rw [hyCk]; exact H) | exact H
        have NyCk := Am hyCk
        clear hyCk
        by_cases c47 : yCh.length + yCk.length < 8796093022208
        ·rw [if_pos c47] at H
         have LMc47 := Am c47
         clear c47
         obtain ⟨yCo, hyCo⟩ : ∃ y_ : List (S27), y_ = (yCh ++ yCk) := ⟨_, rfl⟩
         replace H : (some (a0_0, a0_1, a0_2, yCo)) = some (r1, r2, r3, r4) := by first | (rw [hyCo]; with_reducible exact H) | (have H2_ := (Option.bind_some _ _).symm.trans H; rw [hyCo]; with_reducible exact H2_) | (have H2_ := (Option.bind_some _ _).symm.trans H; with_reducible exact H2_) | with_reducible exact H | (rw [hyCo]; exact H) | exact H
         have NyCo := Am hyCo
         clear hyCo
         simp only [Option.some.injEq, Prod.mk.injEq] at H
         obtain ⟨rfl, rfl, rfl, rfl⟩ := H
         try go_wp2
         have n0_ := Am (blk_drew BKBD.out)
         have n1_ := Am (blk_drew BKBE.out)
         have n2_ := Am (blk_drew BKBF.out)
         have n3_ := Am (below_drew1 HB.out)
         clear BKBD
         clear BKBE
         clear BKBF
         clear HB
         have BKBD := n0_
         have BKBE := n1_
         have BKBF := n2_
         have HB := n3_
         clear n0_ n1_ n2_ n3_
         refine start_ (n := 14) (S := fun w' => True) (ds := []) bSpecSqWith_0 (by kernel_rfl) rfl rfl trivial (fun hHeld => ?_); refine with_tabW spec_sqWith.tab2 spec_sqWith.bits2 (fun HT_ HW_ => ?_)
         generalize wr.drew = w48 at BKBD BKBE BKBF HB hHeld ⊢
         refine puS 0 10 ?_
         refine puS 1 11 ?_
         refine puS 2 12 ?_
         refine puN 3 13 ?_
         refine puN 4 14 ?_
         refine puN 5 15 ?_
         refine puN 6 16 ?_
         refine puN 7 17 ?_
         refine puN 8 18 ?_
         refine puN 9 19 ?_
         refine puN 10 20 ?_
         refine puN 11 21 ?_
         refine puN 12 22 ?_
         refine puS 13 23 ?_
         refine done_ (done_of HT_.out (by kernel_rfl)) ?_
         try go_wp2
         have n0_ := Am (blk_drew BKBD.out)
         have n1_ := Am (blk_drew BKBE.out)
         have n2_ := Am (blk_drew BKBF.out)
         have n3_ := Am (below_drew1 HB.out)
         clear BKBD
         clear BKBE
         clear BKBF
         clear HB
         have BKBD := n0_
         have BKBE := n1_
         have BKBF := n2_
         have HB := n3_
         clear n0_ n1_ n2_ n3_
         have q50 : (x5_1 : Int) ≤ ((l0_3.length : Int) : Int) := ofd
         obtain ⟨i050, hi050, _, hsz50, _⟩ := info_parts info27
         have hroom50 : l0_3.length ≤ c0_3 := HC0_3.out
         have hC50 : Kd.C k27 _ A0_3 l0_3.length l0_3 := HR0_3.out
         have hcut50 := cut_to (P := Try.prog) 30 27 .i64 Try.underlying30 hi050 A0_3 l0_3.length c0_3 x5_1 ofd q50 hroom50
         have hr50 := Kd.C_take (m := (x5_1 : Int).toNat) hC50 (by omega)
         have hy50 : yC7.length = (x5_1 : Int).toNat := (by rw [NyC7.out, List.length_take]; omega)
         rw [← NyC7.out] at hr50
         rw [← hy50] at hcut50
         have HRCa := Am hr50
         have HCCa := Am (show yC7.length ≤ c0_3 from by omega)
         clear hr50 hC50 hroom50 hi050 hsz50
         have KY50 := Am hy50
         clear hy50
         replace q50 := eq_true q50
         refine start_ (n := 10) (S := fun w' => w'.cell? ⟨gbBD, 0, none⟩ = some (.int .i64 a0_0) ∧ w'.cell? ⟨gbBD, 1, none⟩ = some (.int .i64 a0_1) ∧ w'.cell? ⟨gbBD, 2, none⟩ = some (.int .i64 a0_2) ∧ w'.cell? ⟨gbBD, 3, none⟩ = some (.slice A0_3 l0_3.length c0_3) ∧ w'.cell? ⟨gbBE, 0, none⟩ = some (.int .i64 a1_0) ∧ w'.cell? ⟨gbBE, 1, none⟩ = some (.int .i64 a1_1)) (ds := []) bSpecSqWith_15 (by kernel_rfl) rfl rfl ⟨(blk_cell BKBD.out 0).trans rfl, (blk_cell BKBD.out 1).trans rfl, (blk_cell BKBD.out 2).trans rfl, (blk_cell BKBD.out 3).trans rfl, (blk_cell BKBE.out 0).trans rfl, (blk_cell BKBE.out 1).trans rfl⟩ (fun hHeld => ?_); refine with_tabW spec_sqWith.tab4 spec_sqWith.bits4 (fun HT_ HW_ => ?_)
         generalize w48.drew = w49 at BKBD BKBE BKBF HB HRCa hHeld ⊢
         refine puS 1 27 ?_
         refine puS 3 29 ?_
         refine tkS 2 28 ?_
         refine puS 4 30 ?_
         refine tkS 6 32 ?_
         refine join_ (σ := Value × Value × Value) 2 bSpecSqWith_21 (fun s_ => [(26, s_.1), (31, s_.2.1), (33, s_.2.2)]) (fun s_ w' => (w'.cell? ⟨gbBD, 0, none⟩ = some (.int .i64 a0_0) ∧ w'.cell? ⟨gbBD, 1, none⟩ = some (.int .i64 a0_1) ∧ w'.cell? ⟨gbBD, 2, none⟩ = some (.int .i64 a0_2) ∧ w'.cell? ⟨gbBD, 3, none⟩ = some (.slice A0_3 l0_3.length c0_3) ∧ w'.cell? ⟨gbBE, 0, none⟩ = some (.int .i64 a1_0) ∧ w'.cell? ⟨gbBE, 1, none⟩ = some (.int .i64 a1_1)) ∧ (Kd.R k27 27 w' w.heap.size (fun k_ => some k_ ≠ (s_.2.2 : Value).ownBlock ∧ k_ ≠ gbBE) s_.2.1 yCb) ∧ (Kd.R k27 27 w' w.heap.size (fun k_ => some k_ ≠ (s_.2.1 : Value).ownBlock ∧ k_ ≠ gbBE) s_.2.2 yCe) ∧ (w'.heap[gbBD]? = some (.cells #[.int .i64 a0_0, .int .i64 a0_1, .int .i64 a0_2, .slice A0_3 l0_3.length c0_3] 32 (0, 0))) ∧ (w'.heap[gbBE]? = some (.cells #[.int .i64 a1_0, .int .i64 a1_1] 27 (0, 0))) ∧ (w'.heap[gbBF]? = some (.cells #[.int .i64 0, .int .i64 0, .int .i64 0, .slice none 0 0] 32 (0, 0))) ∧ (Below w.heap.size w w')) ?_ ?_
         rotate_left
         ·intro hCont
          refine two_ (i := 0) (j := 7) (Ni := some 26) (Nj := some 33) bSpecSqWith_22 bSpecSqWith_23 rfl rfl rfl rfl (two_of HT_.out (by kernel_rfl)) (by decide) (by decide) (fun K hK => ?_) (fun K hK => ?_)
          ·skip
           refine Kd.R_lit_step k27 _ 27 ?hg (N := 26) ?hd (xs := ([] : List (S27))) (inner := []) (ok := fun _ => True) (okp := fun _ => True) ?hr ?hp (fun _ hk => hk) trivial (Below.refl _ _) (Nat.le_refl _) (by simp) ?_; (case hd => rfl); (case hg => rfl); (case hr => first | (go_simp; done) | (go_simp; rfl)); (case hp => exact (Reps.none _ _))
           intro vC5 w51 ho52 hb hg_ hnew_
           clear hg_ hnew_
           (first | rw [← NyC4.out] at ho52 | (simp only [Int.reduceToNat] at ho52; rw [← NyC4.out] at ho52))
           have n0_ := Am (Kd.R_lower (Kd.R_newB ho52 (g := gbBE) (o := .cells #[.int .i64 a1_0, .int .i64 a1_1] 27 (0, 0)) (blk_up BKBE.out)) (below_size belS))
           have n1_ := Am (blk_below (blk_up BKBD.out) hb)
           have n2_ := Am (blk_below (blk_up BKBE.out) hb)
           have n3_ := Am (blk_below (blk_up BKBF.out) hb)
           have n4_ := Am (below_step belS hb)
           clear BKBD
           clear BKBE
           clear BKBF
           clear HB
           have HOC6 := n0_
           have BKBD := n1_
           have BKBE := n2_
           have BKBF := n3_
           have HB := n4_
           clear n0_ n1_ n2_ n3_ n4_
           clear hb ho52
           refine hK.out _ _ ⟨(blk_cell BKBD.out 0).trans rfl, (blk_cell BKBD.out 1).trans rfl, (blk_cell BKBD.out 2).trans rfl, (blk_cell BKBD.out 3).trans rfl, (blk_cell BKBE.out 0).trans rfl, (blk_cell BKBE.out 1).trans rfl⟩ (fun hHeld => ?_)
           clear hK K
           refine norm_ (a' := ?_) ?_ ?_
           rotate_left
           ·show Act.put _ (some 26) _ = _
            simp only [Act.put, sA_, sB_, sC_, i64_w, i32_w]
            rfl
           refine two_ (i := 5) (j := 7) (Ni := some 31) (Nj := some 33) bSpecSqWith_24 bSpecSqWith_25 rfl rfl rfl rfl (two_of HT_.out (by kernel_rfl)) (by decide) (by decide) (fun K hK => ?_) (fun K hK => ?_)
           ·skip
            refine Kd.R_append_rows_step k27 (w0 := w) w.heap.size (by rfl) (.tmp 26) (.tmp 30) 30 27 (.agg #[(.int .i64 0), (.int .i64 0)]) 16 rfl Try.underlying30 info27 rfl (by decide) (by omega) vC5 yC4 yC7 _ _ _ (fun k_ => k_ ≠ gbBE) (fun _ => False) rfl rfl ?aO ?aR (fun _ _ h => h) (fun _ h => h.elim) ?aF ?aB ?aS ?aL ?_
            (case aR => exact Kd.C_up (Kd.C_below HRCa.out HB.out))
            (case aB => exact belS)
            (case aF => exact (fun k_ hk => Kd.freshB (g := gbBE) (o := .cells #[.int .i64 a1_0, .int .i64 a1_1] 27 (0, 0)) (blk_up BKBE.out) k_ hk))
            (case aO => exact (by (with_reducible repeat (first | apply Kd.R_alloc | apply Kd.R_drewN | apply Kd.R_drew)); exact Kd.R_mono HOC6.out (fun _ hk => hk.2)))
            (case aS => exact (below_size belS))
            (case aL => have := LMc43.out; omega)
            intro vCc w53 ho hb hg hat
            rw [← NyCb.out] at ho
            have n0_ := Am (blk_grown (g := gbBD) (o := .cells #[.int .i64 a0_0, .int .i64 a0_1, .int .i64 a0_2, .slice A0_3 l0_3.length c0_3] 32 (0, 0)) (blk_up BKBD.out) hg (Kd.R_ne HOC6.out BKBD.out (by decide)))
            have n1_ := Am (blk_grown (g := gbBE) (o := .cells #[.int .i64 a1_0, .int .i64 a1_1] 27 (0, 0)) (blk_up BKBE.out) hg (Kd.R_away HOC6.out (fun _ hk => hk.2)))
            have n2_ := Am (blk_grown (g := gbBF) (o := .cells #[.int .i64 0, .int .i64 0, .int .i64 0, .slice none 0 0] 32 (0, 0)) (blk_up BKBF.out) hg (Kd.R_ne HOC6.out BKBF.out (by decide)))
            have n3_ := Am (hb)
            have n4_ := Am (ho)
            clear BKBD
            clear BKBE
            clear BKBF
            clear HB
            clear HOC6
            have BKBD := n0_
            have BKBE := n1_
            have BKBF := n2_
            have HB := n3_
            have HOCd := n4_
            clear n0_ n1_ n2_ n3_ n4_
            clear ho hb hg hat
            refine hK.out _ _ ⟨(blk_cell BKBD.out 0).trans rfl, (blk_cell BKBD.out 1).trans rfl, (blk_cell BKBD.out 2).trans rfl, (blk_cell BKBD.out 3).trans rfl, (blk_cell BKBE.out 0).trans rfl, (blk_cell BKBE.out 1).trans rfl⟩ (fun hHeld => ?_)
            clear hK K
            refine norm_ (a' := ?_) ?_ ?_
            rotate_left
            ·show Act.put _ (some 31) _ = _
             simp only [Act.put, sA_, sB_, sC_, i64_w, i32_w]
             rfl
            refine one_ (i := 7) (N := some 33) bSpecSqWith_21 rfl rfl (one_of HT_.out (by kernel_rfl)) (by decide) (fun K hK => ?_)
            refine Kd.R_lit_step k27 _ 27 ?hg (N := 33) ?hd (xs := ([(⟨a1_0, a1_1⟩ : S27)] : List (S27))) (inner := [.int .i64 a1_0, .int .i64 a1_1]) (ok := fun _ => True) (okp := fun _ => True) ?hr ?hp (fun _ hk => hk) trivial (Below.refl _ _) (Nat.le_refl _) (by simp) ?_; (case hd => rfl); (case hg => rfl); (case hr => first | (go_simp; done) | (go_simp; rfl)); (case hp => exact (Reps.c2 (show Kd.M k27 _ _ _ (⟨a1_0, a1_1⟩ : S27) [.int .i64 a1_0, .int .i64 a1_1] from (k27_mkM _ _ _ (⟨a1_0, a1_1⟩ : S27) )) (Reps.none _ _)))
            intro vCf w54 ho55 hb hg_ hnew_
            clear hg_ hnew_
            (first | rw [← NyCe.out] at ho55 | (simp only [Int.reduceToNat] at ho55; rw [← NyCe.out] at ho55))
            have n0_ := Am (Kd.R_elder' (Kd.R_up HOCd.out) (Kd.R_base ho55) hb)
            have n1_ := Am (Kd.R_lower (Kd.R_newB (Kd.R_new' ho55 (Kd.R_lt (Kd.R_up HOCd.out))) (g := gbBE) (o := .cells #[.int .i64 a1_0, .int .i64 a1_1] 27 (0, 0)) (blk_up BKBE.out)) (below_size belS))
            have n2_ := Am (blk_below (blk_up BKBD.out) hb)
            have n3_ := Am (blk_below (blk_up BKBE.out) hb)
            have n4_ := Am (blk_below (blk_up BKBF.out) hb)
            have n5_ := Am (below_step belS hb)
            clear HOCd
            clear BKBD
            clear BKBE
            clear BKBF
            clear HB
            have HOCd := n0_
            have HOCg := n1_
            have BKBD := n2_
            have BKBE := n3_
            have BKBF := n4_
            have HB := n5_
            clear n0_ n1_ n2_ n3_ n4_ n5_
            clear hb ho55
            refine hK.out _ _ ⟨(blk_cell BKBD.out 0).trans rfl, (blk_cell BKBD.out 1).trans rfl, (blk_cell BKBD.out 2).trans rfl, (blk_cell BKBD.out 3).trans rfl, (blk_cell BKBE.out 0).trans rfl, (blk_cell BKBE.out 1).trans rfl⟩ (fun hHeld => ?_)
            clear hK K
            refine norm_ (a' := ?_) ?_ ?_
            rotate_left
            ·show Act.put _ (some 33) _ = _
             simp only [Act.put, sA_, sB_, sC_, i64_w, i32_w]
             rfl
            exact norm_ (by simp only [putAll, Act.put, sA_, sB_, sC_]) (hCont (vC5, vCc, vCf) _ ⟨hHeld, (by (with_reducible repeat (first | apply Kd.R_alloc | apply Kd.R_drewN | apply Kd.R_drew)); exact Kd.R_mono HOCd.out (fun _ hk => ⟨hk.2, hk.1⟩)), (by (with_reducible repeat (first | apply Kd.R_alloc | apply Kd.R_drewN | apply Kd.R_drew)); exact Kd.R_mono HOCg.out (fun _ hk => ⟨hk.1.2, hk.2⟩)), (blk_up BKBD.out), (blk_up BKBE.out), (blk_up BKBF.out), belS⟩)
           ·skip
            refine Kd.R_lit_step k27 _ 27 ?hg (N := 33) ?hd (xs := ([(⟨a1_0, a1_1⟩ : S27)] : List (S27))) (inner := [.int .i64 a1_0, .int .i64 a1_1]) (ok := fun _ => True) (okp := fun _ => True) ?hr ?hp (fun _ hk => hk) trivial (Below.refl _ _) (Nat.le_refl _) (by simp) ?_; (case hd => rfl); (case hg => rfl); (case hr => first | (go_simp; done) | (go_simp; rfl)); (case hp => exact (Reps.c2 (show Kd.M k27 _ _ _ (⟨a1_0, a1_1⟩ : S27) [.int .i64 a1_0, .int .i64 a1_1] from (k27_mkM _ _ _ (⟨a1_0, a1_1⟩ : S27) )) (Reps.none _ _)))
            intro vCf w53 ho54 hb hg_ hnew_
            clear hg_ hnew_
            (first | rw [← NyCe.out] at ho54 | (simp only [Int.reduceToNat] at ho54; rw [← NyCe.out] at ho54))
            have n0_ := Am (Kd.R_elder' (Kd.R_up HOC6.out) (Kd.R_base ho54) hb)
            have n1_ := Am (Kd.R_lower (Kd.R_newB (Kd.R_new' ho54 (Kd.R_lt (Kd.R_up HOC6.out))) (g := gbBE) (o := .cells #[.int .i64 a1_0, .int .i64 a1_1] 27 (0, 0)) (blk_up BKBE.out)) (below_size belS))
            have n2_ := Am (blk_below (blk_up BKBD.out) hb)
            have n3_ := Am (blk_below (blk_up BKBE.out) hb)
            have n4_ := Am (blk_below (blk_up BKBF.out) hb)
            have n5_ := Am (below_step belS hb)
            clear HOC6
            clear BKBD
            clear BKBE
            clear BKBF
            clear HB
            have HOC6 := n0_
            have HOCg := n1_
            have BKBD := n2_
            have BKBE := n3_
            have BKBF := n4_
            have HB := n5_
            clear n0_ n1_ n2_ n3_ n4_ n5_
            clear hb ho54
            refine hK.out _ _ ⟨(blk_cell BKBD.out 0).trans rfl, (blk_cell BKBD.out 1).trans rfl, (blk_cell BKBD.out 2).trans rfl, (blk_cell BKBD.out 3).trans rfl, (blk_cell BKBE.out 0).trans rfl, (blk_cell BKBE.out 1).trans rfl⟩ (fun hHeld => ?_)
            clear hK K
            refine norm_ (a' := ?_) ?_ ?_
            rotate_left
            ·show Act.put _ (some 33) _ = _
             simp only [Act.put, sA_, sB_, sC_, i64_w, i32_w]
             rfl
            refine one_ (i := 5) (N := some 31) bSpecSqWith_21 rfl rfl (one_of HT_.out (by kernel_rfl)) (by decide) (fun K hK => ?_)
            refine Kd.R_append_rows_step k27 (w0 := w) w.heap.size (by rfl) (.tmp 26) (.tmp 30) 30 27 (.agg #[(.int .i64 0), (.int .i64 0)]) 16 rfl Try.underlying30 info27 rfl (by decide) (by omega) vC5 yC4 yC7 _ _ _ (fun k_ => some k_ ≠ (vCf : Value).ownBlock ∧ k_ ≠ gbBE) (fun _ => False) rfl rfl ?aO ?aR (fun _ _ h => h) (fun _ h => h.elim) ?aF ?aB ?aS ?aL ?_
            (case aR => exact Kd.C_up (Kd.C_below HRCa.out HB.out))
            (case aB => exact belS)
            (case aF => exact (fun k_ hk => ⟨Kd.fresh' (Kd.R_lt (Kd.R_up HOCg.out)) k_ hk, Kd.freshB (g := gbBE) (o := .cells #[.int .i64 a1_0, .int .i64 a1_1] 27 (0, 0)) (blk_up BKBE.out) k_ hk⟩))
            (case aO => exact (by (with_reducible repeat (first | apply Kd.R_alloc | apply Kd.R_drewN | apply Kd.R_drew)); exact Kd.R_mono HOC6.out (fun _ hk => ⟨hk.2, hk.1.2⟩)))
            (case aS => exact (below_size belS))
            (case aL => have := LMc43.out; omega)
            intro vCc w55 ho hb hg hat
            rw [← NyCb.out] at ho
            have n0_ := Am (blk_grown (g := gbBD) (o := .cells #[.int .i64 a0_0, .int .i64 a0_1, .int .i64 a0_2, .slice A0_3 l0_3.length c0_3] 32 (0, 0)) (blk_up BKBD.out) hg (Kd.R_ne HOC6.out BKBD.out (by decide)))
            have n1_ := Am (blk_grown (g := gbBE) (o := .cells #[.int .i64 a1_0, .int .i64 a1_1] 27 (0, 0)) (blk_up BKBE.out) hg (Kd.R_away HOC6.out (fun _ hk => hk.1.2)))
            have n2_ := Am (blk_grown (g := gbBF) (o := .cells #[.int .i64 0, .int .i64 0, .int .i64 0, .slice none 0 0] 32 (0, 0)) (blk_up BKBF.out) hg (Kd.R_ne HOC6.out BKBF.out (by decide)))
            have n3_ := Am (Kd.R_after (ok := (fun k_ => k_ ≠ gbBE)) (by (with_reducible repeat (first | apply Kd.R_alloc | apply Kd.R_drewN | apply Kd.R_drew)); exact Kd.R_mono HOCg.out (fun _ hk => ⟨hk.2, hk.1.2⟩)) hg hat)
            have n4_ := Am (hb)
            have n5_ := Am (ho)
            clear BKBD
            clear BKBE
            clear BKBF
            clear HOCg
            clear HB
            clear HOC6
            have BKBD := n0_
            have BKBE := n1_
            have BKBF := n2_
            have HOCg := n3_
            have HB := n4_
            have HOCd := n5_
            clear n0_ n1_ n2_ n3_ n4_ n5_
            clear ho hb hg hat
            refine hK.out _ _ ⟨(blk_cell BKBD.out 0).trans rfl, (blk_cell BKBD.out 1).trans rfl, (blk_cell BKBD.out 2).trans rfl, (blk_cell BKBD.out 3).trans rfl, (blk_cell BKBE.out 0).trans rfl, (blk_cell BKBE.out 1).trans rfl⟩ (fun hHeld => ?_)
            clear hK K
            refine norm_ (a' := ?_) ?_ ?_
            rotate_left
            ·show Act.put _ (some 31) _ = _
             simp only [Act.put, sA_, sB_, sC_, i64_w, i32_w]
             rfl
            exact norm_ (by simp only [putAll, Act.put, sA_, sB_, sC_]) (hCont (vC5, vCc, vCf) _ ⟨hHeld, (Kd.R_up HOCd.out), (by (with_reducible repeat (first | apply Kd.R_alloc | apply Kd.R_drewN | apply Kd.R_drew)); exact Kd.R_mono HOCg.out (fun _ hk => ⟨hk.2, hk.1⟩)), (blk_up BKBD.out), (blk_up BKBE.out), (blk_up BKBF.out), belS⟩)
          ·skip
           refine Kd.R_lit_step k27 _ 27 ?hg (N := 33) ?hd (xs := ([(⟨a1_0, a1_1⟩ : S27)] : List (S27))) (inner := [.int .i64 a1_0, .int .i64 a1_1]) (ok := fun _ => True) (okp := fun _ => True) ?hr ?hp (fun _ hk => hk) trivial (Below.refl _ _) (Nat.le_refl _) (by simp) ?_; (case hd => rfl); (case hg => rfl); (case hr => first | (go_simp; done) | (go_simp; rfl)); (case hp => exact (Reps.c2 (show Kd.M k27 _ _ _ (⟨a1_0, a1_1⟩ : S27) [.int .i64 a1_0, .int .i64 a1_1] from (k27_mkM _ _ _ (⟨a1_0, a1_1⟩ : S27) )) (Reps.none _ _)))
           intro vCf w51 ho52 hb hg_ hnew_
           clear hg_ hnew_
           (first | rw [← NyCe.out] at ho52 | (simp only [Int.reduceToNat] at ho52; rw [← NyCe.out] at ho52))
           have n0_ := Am (Kd.R_lower (Kd.R_newB ho52 (g := gbBE) (o := .cells #[.int .i64 a1_0, .int .i64 a1_1] 27 (0, 0)) (blk_up BKBE.out)) (below_size belS))
           have n1_ := Am (blk_below (blk_up BKBD.out) hb)
           have n2_ := Am (blk_below (blk_up BKBE.out) hb)
           have n3_ := Am (blk_below (blk_up BKBF.out) hb)
           have n4_ := Am (below_step belS hb)
           clear BKBD
           clear BKBE
           clear BKBF
           clear HB
           have HOCg := n0_
           have BKBD := n1_
           have BKBE := n2_
           have BKBF := n3_
           have HB := n4_
           clear n0_ n1_ n2_ n3_ n4_
           clear hb ho52
           refine hK.out _ _ ⟨(blk_cell BKBD.out 0).trans rfl, (blk_cell BKBD.out 1).trans rfl, (blk_cell BKBD.out 2).trans rfl, (blk_cell BKBD.out 3).trans rfl, (blk_cell BKBE.out 0).trans rfl, (blk_cell BKBE.out 1).trans rfl⟩ (fun hHeld => ?_)
           clear hK K
           refine norm_ (a' := ?_) ?_ ?_
           rotate_left
           ·show Act.put _ (some 33) _ = _
            simp only [Act.put, sA_, sB_, sC_, i64_w, i32_w]
            rfl
           refine one_ (i := 0) (N := some 26) bSpecSqWith_25 rfl rfl (one_of HT_.out (by kernel_rfl)) (by decide) (fun K hK => ?_)
           refine Kd.R_lit_step k27 _ 27 ?hg (N := 26) ?hd (xs := ([] : List (S27))) (inner := []) (ok := fun _ => True) (okp := fun _ => True) ?hr ?hp (fun _ hk => hk) trivial (Below.refl _ _) (Nat.le_refl _) (by simp) ?_; (case hd => rfl); (case hg => rfl); (case hr => first | (go_simp; done) | (go_simp; rfl)); (case hp => exact (Reps.none _ _))
           intro vC5 w53 ho54 hb hg_ hnew_
           clear hg_ hnew_
           (first | rw [← NyC4.out] at ho54 | (simp only [Int.reduceToNat] at ho54; rw [← NyC4.out] at ho54))
           have n0_ := Am (Kd.R_elder' (Kd.R_up HOCg.out) (Kd.R_base ho54) hb)
           have n1_ := Am (Kd.R_lower (Kd.R_newB (Kd.R_new' ho54 (Kd.R_lt (Kd.R_up HOCg.out))) (g := gbBE) (o := .cells #[.int .i64 a1_0, .int .i64 a1_1] 27 (0, 0)) (blk_up BKBE.out)) (below_size belS))
           have n2_ := Am (blk_below (blk_up BKBD.out) hb)
           have n3_ := Am (blk_below (blk_up BKBE.out) hb)
           have n4_ := Am (blk_below (blk_up BKBF.out) hb)
           have n5_ := Am (below_step belS hb)
           clear HOCg
           clear BKBD
           clear BKBE
           clear BKBF
           clear HB
           have HOCg := n0_
           have HOC6 := n1_
           have BKBD := n2_
           have BKBE := n3_
           have BKBF := n4_
           have HB := n5_
           clear n0_ n1_ n2_ n3_ n4_ n5_
           clear hb ho54
           refine hK.out _ _ ⟨(blk_cell BKBD.out 0).trans rfl, (blk_cell BKBD.out 1).trans rfl, (blk_cell BKBD.out 2).trans rfl, (blk_cell BKBD.out 3).trans rfl, (blk_cell BKBE.out 0).trans rfl, (blk_cell BKBE.out 1).trans rfl⟩ (fun hHeld => ?_)
           clear hK K
           refine norm_ (a' := ?_) ?_ ?_
           rotate_left
           ·show Act.put _ (some 26) _ = _
            simp only [Act.put, sA_, sB_, sC_, i64_w, i32_w]
            rfl
           refine one_ (i := 5) (N := some 31) bSpecSqWith_21 rfl rfl (one_of HT_.out (by kernel_rfl)) (by decide) (fun K hK => ?_)
           refine Kd.R_append_rows_step k27 (w0 := w) w.heap.size (by rfl) (.tmp 26) (.tmp 30) 30 27 (.agg #[(.int .i64 0), (.int .i64 0)]) 16 rfl Try.underlying30 info27 rfl (by decide) (by omega) vC5 yC4 yC7 _ _ _ (fun k_ => some k_ ≠ (vCf : Value).ownBlock ∧ k_ ≠ gbBE) (fun _ => False) rfl rfl ?aO ?aR (fun _ _ h => h) (fun _ h => h.elim) ?aF ?aB ?aS ?aL ?_
           (case aR => exact Kd.C_up (Kd.C_below HRCa.out HB.out))
           (case aB => exact belS)
           (case aF => exact (fun k_ hk => ⟨Kd.fresh' (Kd.R_lt (Kd.R_up HOCg.out)) k_ hk, Kd.freshB (g := gbBE) (o := .cells #[.int .i64 a1_0, .int .i64 a1_1] 27 (0, 0)) (blk_up BKBE.out) k_ hk⟩))
           (case aO => exact (by (with_reducible repeat (first | apply Kd.R_alloc | apply Kd.R_drewN | apply Kd.R_drew)); exact Kd.R_mono HOC6.out (fun _ hk => ⟨hk.1.2, hk.2⟩)))
           (case aS => exact (below_size belS))
           (case aL => have := LMc43.out; omega)
           intro vCc w55 ho hb hg hat
           rw [← NyCb.out] at ho
           have n0_ := Am (blk_grown (g := gbBD) (o := .cells #[.int .i64 a0_0, .int .i64 a0_1, .int .i64 a0_2, .slice A0_3 l0_3.length c0_3] 32 (0, 0)) (blk_up BKBD.out) hg (Kd.R_ne HOC6.out BKBD.out (by decide)))
           have n1_ := Am (blk_grown (g := gbBE) (o := .cells #[.int .i64 a1_0, .int .i64 a1_1] 27 (0, 0)) (blk_up BKBE.out) hg (Kd.R_away HOC6.out (fun _ hk => hk.2)))
           have n2_ := Am (blk_grown (g := gbBF) (o := .cells #[.int .i64 0, .int .i64 0, .int .i64 0, .slice none 0 0] 32 (0, 0)) (blk_up BKBF.out) hg (Kd.R_ne HOC6.out BKBF.out (by decide)))
           have n3_ := Am (Kd.R_after (ok := (fun k_ => k_ ≠ gbBE)) (by (with_reducible repeat (first | apply Kd.R_alloc | apply Kd.R_drewN | apply Kd.R_drew)); exact Kd.R_mono HOCg.out (fun _ hk => ⟨hk.1.2, hk.2⟩)) hg hat)
           have n4_ := Am (hb)
           have n5_ := Am (ho)
           clear BKBD
           clear BKBE
           clear BKBF
           clear HOCg
           clear HB
           clear HOC6
           have BKBD := n0_
           have BKBE := n1_
           have BKBF := n2_
           have HOCg := n3_
           have HB := n4_
           have HOCd := n5_
           clear n0_ n1_ n2_ n3_ n4_ n5_
           clear ho hb hg hat
           refine hK.out _ _ ⟨(blk_cell BKBD.out 0).trans rfl, (blk_cell BKBD.out 1).trans rfl, (blk_cell BKBD.out 2).trans rfl, (blk_cell BKBD.out 3).trans rfl, (blk_cell BKBE.out 0).trans rfl, (blk_cell BKBE.out 1).trans rfl⟩ (fun hHeld => ?_)
           clear hK K
           refine norm_ (a' := ?_) ?_ ?_
           rotate_left
           ·show Act.put _ (some 31) _ = _
            simp only [Act.put, sA_, sB_, sC_, i64_w, i32_w]
            rfl
           exact norm_ (by simp only [putAll, Act.put, sA_, sB_, sC_]) (hCont (vC5, vCc, vCf) _ ⟨hHeld, (Kd.R_up HOCd.out), (by (with_reducible repeat (first | apply Kd.R_alloc | apply Kd.R_drewN | apply Kd.R_drew)); exact Kd.R_mono HOCg.out (fun _ hk => ⟨hk.2, hk.1⟩)), (blk_up BKBD.out), (blk_up BKBE.out), (blk_up BKBF.out), belS⟩)
         rintro ⟨vC5, vCc, vCf⟩ w56 ⟨hS_, h0_, h1_, h2_, h3_, h4_, h5_⟩
         have n0_ : Aside0 (Kd.R k27 27 w56 w.heap.size (fun k_ => some k_ ≠ (vCf : Value).ownBlock ∧ k_ ≠ gbBE) vCc yCb) := ⟨h0_⟩
         have n1_ : Aside0 (Kd.R k27 27 w56 w.heap.size (fun k_ => some k_ ≠ (vCc : Value).ownBlock ∧ k_ ≠ gbBE) vCf yCe) := ⟨h1_⟩
         have n2_ : Aside0 (w56.heap[gbBD]? = some (.cells #[.int .i64 a0_0, .int .i64 a0_1, .int .i64 a0_2, .slice A0_3 l0_3.length c0_3] 32 (0, 0))) := ⟨h2_⟩
         have n3_ : Aside0 (w56.heap[gbBE]? = some (.cells #[.int .i64 a1_0, .int .i64 a1_1] 27 (0, 0))) := ⟨h3_⟩
         have n4_ : Aside0 (w56.heap[gbBF]? = some (.cells #[.int .i64 0, .int .i64 0, .int .i64 0, .slice none 0 0] 32 (0, 0))) := ⟨h4_⟩
         have n5_ : Aside0 (Below w.heap.size w w56) := ⟨h5_⟩
         clear BKBD
         clear BKBE
         clear BKBF
         clear HB
         clear h0_ h1_ h2_ h3_ h4_ h5_
         have HOCd := n0_
         have HOCg := n1_
         have BKBD := n2_
         have BKBE := n3_
         have BKBF := n4_
         have HB := n5_
         clear n0_ n1_ n2_ n3_ n4_ n5_
         have hHeld : w56.cell? ⟨gbBD, 0, none⟩ = some (.int .i64 a0_0) ∧ w56.cell? ⟨gbBD, 1, none⟩ = some (.int .i64 a0_1) ∧ w56.cell? ⟨gbBD, 2, none⟩ = some (.int .i64 a0_2) ∧ w56.cell? ⟨gbBD, 3, none⟩ = some (.slice A0_3 l0_3.length c0_3) ∧ w56.cell? ⟨gbBE, 0, none⟩ = some (.int .i64 a1_0) ∧ w56.cell? ⟨gbBE, 1, none⟩ = some (.int .i64 a1_1) := hS_
         obtain ⟨Ao58, co58, eo58⟩ := Kd.R_slice HOCg.out
         (first | subst eo58 | (injection eo58 with f1_ f2_ f3_; have f4_ := f1_.symm; have f5_ := f3_.symm; clear f1_ f2_ f3_; subst f4_; subst f5_))
         refine norm_ (a' := ?_) ?_ ?_
         rotate_left
         ·simp only [putAll, Act.put, sA_, sB_, sC_]
          rfl
         refine one_ (i := 8) (N := some 34) bSpecSqWith_26 rfl rfl (one_of HT_.out (by kernel_rfl)) (by decide) (fun K hK => ?_)
         refine Kd.R_append_rows_step k27 (w0 := w) w.heap.size (by rfl) (.tmp 31) (.tmp 33) 30 27 (.agg #[(.int .i64 0), (.int .i64 0)]) 16 rfl Try.underlying30 info27 rfl (by decide) (by omega) vCc yCb yCe _ _ _ (fun k_ => some k_ ≠ (.slice Ao58 yCe.length co58 : Value).ownBlock ∧ k_ ≠ gbBE) (fun _ => False) rfl rfl ?aO ?aR (fun _ _ h => h) (fun _ h => h.elim) ?aF ?aB ?aS ?aL ?_
         (case aR => exact Kd.C_up (Kd.R_reads' HOCg.out).2.2)
         (case aB => exact belS)
         (case aF => exact (fun k_ hk => ⟨Kd.fresh' (Kd.R_lt (Kd.R_up HOCg.out)) k_ hk, Kd.freshB (g := gbBE) (o := .cells #[.int .i64 a1_0, .int .i64 a1_1] 27 (0, 0)) (blk_up BKBE.out) k_ hk⟩))
         (case aO => exact (Kd.R_up HOCd.out))
         (case aS => exact (below_size belS))
         (case aL => have := LMc44.out; omega)
         intro vCi w57 ho hb hg hat
         rw [← NyCh.out] at ho
         have n0_ := Am (blk_grown (g := gbBD) (o := .cells #[.int .i64 a0_0, .int .i64 a0_1, .int .i64 a0_2, .slice A0_3 l0_3.length c0_3] 32 (0, 0)) (blk_up BKBD.out) hg (Kd.R_ne HOCd.out BKBD.out (by decide)))
         have n1_ := Am (blk_grown (g := gbBE) (o := .cells #[.int .i64 a1_0, .int .i64 a1_1] 27 (0, 0)) (blk_up BKBE.out) hg (Kd.R_away HOCd.out (fun _ hk => hk.2)))
         have n2_ := Am (blk_grown (g := gbBF) (o := .cells #[.int .i64 0, .int .i64 0, .int .i64 0, .slice none 0 0] 32 (0, 0)) (blk_up BKBF.out) hg (Kd.R_ne HOCd.out BKBF.out (by decide)))
         have n3_ := Am (Kd.R_after (ok := (fun k_ => k_ ≠ gbBE)) (by (with_reducible repeat (first | apply Kd.R_alloc | apply Kd.R_drewN | apply Kd.R_drew)); exact Kd.R_mono HOCg.out (fun _ hk => ⟨hk.2, hk.1⟩)) hg hat)
         have n4_ := Am (hb)
         have n5_ := Am (ho)
         clear BKBD
         clear BKBE
         clear BKBF
         clear HOCg
         clear HB
         clear HOCd
         have BKBD := n0_
         have BKBE := n1_
         have BKBF := n2_
         have HOCg := n3_
         have HB := n4_
         have HOCj := n5_
         clear n0_ n1_ n2_ n3_ n4_ n5_
         clear ho hb hg hat
         refine hK.out _ _ ⟨(blk_cell BKBD.out 0).trans rfl, (blk_cell BKBD.out 1).trans rfl, (blk_cell BKBD.out 2).trans rfl, (blk_cell BKBD.out 3).trans rfl, (blk_cell BKBE.out 0).trans rfl, (blk_cell BKBE.out 1).trans rfl⟩ (fun hHeld => ?_)
         clear hK K
         refine norm_ (a' := ?_) ?_ ?_
         rotate_left
         ·show Act.put _ (some 34) _ = _
          simp only [Act.put, sA_, sB_, sC_, i64_w, i32_w]
          rfl
         refine puS 9 6 ?_
         refine done_ (done_of HT_.out (by kernel_rfl)) ?_
         try go_wp2
         have n0_ := Am (Kd.R_drew HOCg.out)
         have n1_ := Am (Kd.R_drew HOCj.out)
         have n2_ := Am (blk_drew BKBD.out)
         have n3_ := Am (blk_drew BKBE.out)
         have n4_ := Am (blk_drew BKBF.out)
         have n5_ := Am (below_drew1 HB.out)
         clear HOCg
         clear HOCj
         clear BKBD
         clear BKBE
         clear BKBF
         clear HB
         have HOCg := n0_
         have HOCj := n1_
         have BKBD := n2_
         have BKBE := n3_
         have BKBF := n4_
         have HB := n5_
         clear n0_ n1_ n2_ n3_ n4_ n5_
         have q60 : (x5_1 : Int) ≤ ((l0_3.length : Int) : Int) := ofd
         obtain ⟨i060, hi060, _, hsz60, _⟩ := info_parts info27
         have hroom60 : l0_3.length ≤ c0_3 := HC0_3.out
         have hC60 : Kd.C k27 _ A0_3 l0_3.length l0_3 := HR0_3.out
         have q060 : (0 : Int) ≤ (x5_1 : Int) := ofd
         have hcut60 := cut_from (P := Try.prog) 30 27 .i64 Try.underlying30 hi060 2 hsz60 A0_3 l0_3.length c0_3 x5_1 q060 q60
         have hr60 := Kd.C_drop (m := (x5_1 : Int).toNat) (c := c0_3) hC60 (by omega) hroom60
         obtain ⟨A60, hA60⟩ : ∃ A1, A1 = (if c0_3 = (x5_1 : Int).toNat then A0_3 else (A0_3 : Option Addr).map (·.add ((x5_1 : Int).toNat * 2))) := ⟨_, rfl⟩
         obtain ⟨c60, hc60⟩ : ∃ c1, c1 = c0_3 - (x5_1 : Int).toNat := ⟨_, rfl⟩
         have hy60 : yCk.length = l0_3.length - (x5_1 : Int).toNat := (by rw [NyCk.out, List.length_drop] <;> omega)
         rw [show (l0_3).drop (x5_1 : Int).toNat = yCk from NyCk.out.symm] at hr60
         replace hr60 : Kd.C k27 _ A60 yCk.length yCk := (by rw [hA60]; exact hr60)
         rw [← hy60, ← hA60, ← hc60] at hcut60
         have HRCn := Am hr60
         have HCCn := Am (show yCk.length ≤ c60 from by rw [hy60, hc60]; exact Nat.sub_le_sub_right hroom60 _)
         clear hr60 hC60 hroom60 hi060 hsz60 hc60
         have KY60 := Am hy60
         have KA60 := Am hA60
         clear hy60 hA60
         replace q60 := eq_true q60
         refine start_ (n := 14) (S := fun w' => w'.cell? ⟨gbBD, 0, none⟩ = some (.int .i64 a0_0) ∧ w'.cell? ⟨gbBD, 1, none⟩ = some (.int .i64 a0_1) ∧ w'.cell? ⟨gbBD, 2, none⟩ = some (.int .i64 a0_2) ∧ w'.cell? ⟨gbBD, 3, none⟩ = some (.slice A0_3 l0_3.length c0_3)) (ds := []) bSpecSqWith_0 (by kernel_rfl) rfl rfl ⟨(blk_cell BKBD.out 0).trans rfl, (blk_cell BKBD.out 1).trans rfl, (blk_cell BKBD.out 2).trans rfl, (blk_cell BKBD.out 3).trans rfl⟩ (fun hHeld => ?_); refine with_tabW spec_sqWith.tab5 spec_sqWith.bits5 (fun HT_ HW_ => ?_)
         generalize w57.drew = w59 at HOCg HOCj BKBD BKBE BKBF HB HRCn hHeld ⊢
         refine puS 0 35 ?_
         refine puS 2 37 ?_
         refine puS 4 39 ?_
         refine puS 6 41 ?_
         refine puS 7 42 ?_
         refine puS 9 44 ?_
         refine tkS 1 36 ?_
         refine tkS 3 38 ?_
         refine tkS 5 40 ?_
         refine tkS 8 43 ?_
         refine puS 10 45 ?_
         refine one_ (i := 11) (N := some 46) bSpecSqWith_12 rfl rfl (one_of HT_.out (by kernel_rfl)) (by decide) (fun K hK => ?_)
         refine Kd.R_append_rows_step k27 (w0 := w) w.heap.size (by rfl) (.tmp 41) (.tmp 45) 30 27 (.agg #[(.int .i64 0), (.int .i64 0)]) 16 rfl Try.underlying30 info27 rfl (by decide) (by omega) vCi yCh yCk _ _ _ (fun k_ => some k_ ≠ (.slice Ao58 yCe.length co58 : Value).ownBlock ∧ k_ ≠ gbBE) (fun _ => False) rfl rfl ?aO ?aR (fun _ _ h => h) (fun _ h => h.elim) ?aF ?aB ?aS ?aL ?_
         (case aR => exact Kd.C_up (Kd.C_below HRCn.out HB.out))
         (case aB => exact belS)
         (case aF => exact (fun k_ hk => ⟨Kd.fresh' (Kd.R_lt (Kd.R_up HOCg.out)) k_ hk, Kd.freshB (g := gbBE) (o := .cells #[.int .i64 a1_0, .int .i64 a1_1] 27 (0, 0)) (blk_up BKBE.out) k_ hk⟩))
         (case aO => exact (Kd.R_up HOCj.out))
         (case aS => exact (below_size belS))
         (case aL => have := LMc47.out; omega)
         intro vCp w61 ho hb hg hat
         rw [← NyCo.out] at ho
         have n0_ := Am (blk_grown (g := gbBD) (o := .cells #[.int .i64 a0_0, .int .i64 a0_1, .int .i64 a0_2, .slice A0_3 l0_3.length c0_3] 32 (0, 0)) (blk_up BKBD.out) hg (Kd.R_ne HOCj.out BKBD.out (by decide)))
         have n1_ := Am (blk_grown (g := gbBE) (o := .cells #[.int .i64 a1_0, .int .i64 a1_1] 27 (0, 0)) (blk_up BKBE.out) hg (Kd.R_away HOCj.out (fun _ hk => hk.2)))
         have n2_ := Am (blk_grown (g := gbBF) (o := .cells #[.int .i64 0, .int .i64 0, .int .i64 0, .slice none 0 0] 32 (0, 0)) (blk_up BKBF.out) hg (Kd.R_ne HOCj.out BKBF.out (by decide)))
         have n3_ := Am (Kd.R_after (ok := (fun k_ => k_ ≠ gbBE)) (Kd.R_up HOCg.out) hg hat)
         have n4_ := Am (hb)
         have n5_ := Am (ho)
         clear BKBD
         clear BKBE
         clear BKBF
         clear HOCg
         clear HB
         clear HOCj
         have BKBD := n0_
         have BKBE := n1_
         have BKBF := n2_
         have HOCg := n3_
         have HB := n4_
         have HOCq := n5_
         clear n0_ n1_ n2_ n3_ n4_ n5_
         clear ho hb hg hat
         obtain ⟨Ao62, co62, eo62⟩ := Kd.R_slice HOCq.out
         (first | subst eo62 | (injection eo62 with f1_ f2_ f3_; have f4_ := f1_.symm; have f5_ := f3_.symm; clear f1_ f2_ f3_; subst f4_; subst f5_))
         refine hK.out _ _ ⟨(blk_cell BKBD.out 0).trans rfl, (blk_cell BKBD.out 1).trans rfl, (blk_cell BKBD.out 2).trans rfl, (blk_cell BKBD.out 3).trans rfl⟩ (fun hHeld => ?_)
         clear hK K
         refine norm_ (a' := ?_) ?_ ?_
         rotate_left
         ·show Act.put _ (some 46) _ = _
          simp only [Act.put, sA_, sB_, sC_, i64_w, i32_w]
          rfl
         refine puS 12 47 ?_
         refine one_ (i := 13) (N := none) bSpecSqWith_14 rfl rfl (one_of HT_.out (by kernel_rfl)) (by decide) (fun K hK => ?_)
         have hs63 : w61.cell? ⟨gbBF, 0, none⟩ = some (.int .i64 0) := (blk_cell BKBF.out 0).trans rfl
         have hfs63 := blk_frozen BKBF.out 0
         have hns63_0 := NBBD_BF.out
         have hns63_1 := NBBE_BF.out
         have hms63_0 := NBBF_BD.out
         have hms63_1 := NBBF_BE.out
         have hs64 : w61.cell? ⟨gbBF, 1, none⟩ = some (.int .i64 0) := (blk_cell BKBF.out 1).trans rfl
         have hfs64 := blk_frozen BKBF.out 1
         have hns64_0 := NBBD_BF.out
         have hns64_1 := NBBE_BF.out
         have hms64_0 := NBBF_BD.out
         have hms64_1 := NBBF_BE.out
         have hs65 : w61.cell? ⟨gbBF, 2, none⟩ = some (.int .i64 0) := (blk_cell BKBF.out 2).trans rfl
         have hfs65 := blk_frozen BKBF.out 2
         have hns65_0 := NBBD_BF.out
         have hns65_1 := NBBE_BF.out
         have hms65_0 := NBBF_BD.out
         have hms65_1 := NBBF_BE.out
         have hs66 : w61.cell? ⟨gbBF, 3, none⟩ = some (.slice none 0 0) := (blk_cell BKBF.out 3).trans rfl
         have hfs66 := blk_frozen BKBF.out 3
         have hns66_0 := NBBD_BF.out
         have hns66_1 := NBBE_BF.out
         have hms66_0 := NBBF_BD.out
         have hms66_1 := NBBF_BE.out
         refine skip_ (w1 := ?_) (by rfl) rfl ?_ ?_
         rotate_left
         ·go_simp
          rfl
         refine hK.out _ _ ⟨((cell_far (p := ⟨gbBF, _, none⟩) NBBD_BF.out _).trans (((cell_far (p := ⟨gbBF, _, none⟩) NBBD_BF.out _).trans (((cell_far (p := ⟨gbBF, _, none⟩) NBBD_BF.out _).trans (((cell_far (p := ⟨gbBF, _, none⟩) NBBD_BF.out _).trans (hHeld.1)))))))), ((cell_far (p := ⟨gbBF, _, none⟩) NBBD_BF.out _).trans (((cell_far (p := ⟨gbBF, _, none⟩) NBBD_BF.out _).trans (((cell_far (p := ⟨gbBF, _, none⟩) NBBD_BF.out _).trans (((cell_far (p := ⟨gbBF, _, none⟩) NBBD_BF.out _).trans (hHeld.2.1)))))))), ((cell_far (p := ⟨gbBF, _, none⟩) NBBD_BF.out _).trans (((cell_far (p := ⟨gbBF, _, none⟩) NBBD_BF.out _).trans (((cell_far (p := ⟨gbBF, _, none⟩) NBBD_BF.out _).trans (((cell_far (p := ⟨gbBF, _, none⟩) NBBD_BF.out _).trans (hHeld.2.2.1)))))))), ((cell_far (p := ⟨gbBF, _, none⟩) NBBD_BF.out _).trans (((cell_far (p := ⟨gbBF, _, none⟩) NBBD_BF.out _).trans (((cell_far (p := ⟨gbBF, _, none⟩) NBBD_BF.out _).trans (((cell_far (p := ⟨gbBF, _, none⟩) NBBD_BF.out _).trans (hHeld.2.2.2))))))))⟩ (fun hHeld => ?_)
         clear hK K
         refine done_ (done_of HT_.out (by kernel_rfl)) ?_
         try go_wp2
         refine bodyPost_ret (results_cell_row rfl _ _ gbBF 32 #[.int .i64 a0_0, .int .i64 a0_1, .int .i64 a0_2, .slice Ao62 yCo.length co62] (0, 0) _ rfl (by (with_reducible repeat (first | refine blk_drewN ?_ _ | refine blk_drew ?_ | refine blk_alloc ?_ _)); refine blk_put (cs := #[.int .i64 a0_0, .int .i64 a0_1, .int .i64 a0_2, .slice none 0 0]) ?_ 3 _ rfl; refine blk_put (cs := #[.int .i64 a0_0, .int .i64 a0_1, .int .i64 0, .slice none 0 0]) ?_ 2 _ rfl; refine blk_put (cs := #[.int .i64 a0_0, .int .i64 0, .int .i64 0, .slice none 0 0]) ?_ 1 _ rfl; refine blk_putU (cs := #[.int .i64 0, .int .i64 0, .int .i64 0, .slice none 0 0]) ?_ 0 _ rfl; exact BKBF.out) Try.underlying32 rfl (by kernel_rfl)) rfl ?_
         exact ⟨_, rfE, by (with_reducible repeat (first | apply Kd.R_alloc | apply Kd.R_drewN | apply Kd.R_drew)); exact Kd.R_mono (Kd.R_far (p := ⟨gbBF, 3, none⟩) (Kd.R_far (p := ⟨gbBF, 2, none⟩) (Kd.R_far (p := ⟨gbBF, 1, none⟩) (Kd.R_far (p := ⟨gbBF, 0, none⟩) (Kd.R_types HOCq.out BKBF.out (by decide)) (fun _ hk => hk.2) (.int .i64 a0_0)) (fun _ hk => hk.2) (.int .i64 a0_1)) (fun _ hk => hk.2) (.int .i64 a0_2)) (fun _ hk => hk.2) (.slice Ao62 yCo.length co62)) (fun _ hk => trivial), by exact belS⟩
        ·rw [if_neg c47] at H
         exact absurd H (by simp)
       ·rw [if_neg c44] at H
        exact absurd H (by simp)
      ·rw [if_neg c43] at H
       exact absurd H (by simp)
     ·rw [if_neg c42] at H
      exact absurd H (by simp)
    ·rw [if_neg c41] at H
     exact absurd H (by simp)

end Go.Proofs.Ytkobjjadojpjfaa.Pr
