-- A text of the machine side, written by wip/gen.py of this repo out of the translation. Not trusted: Lean checks it.
import Derived.Test.YtkobjjadojpjfaaF0
import Derived.Test.YtkobjjadojpjfaaFGC
namespace Go.Proofs.Ytkobjjadojpjfaa.Pr
open Go.RowKit Go.Proofs.YtkobjjadojpjfaaW.PrintWords Go.Proofs.YtkobjjadojpjfaaW.PrintLast Go.Proofs.YtkobjjadojpjfaaW.PrintMore
attribute [local go_sem] max2_int min2_int max_two min_two max_three min_three max_four min_four   -- for this text's walks alone
set_option linter.unusedVariables false
set_option linter.unusedSimpArgs false

/-! ### spec_DropJump: function 112 -/
def spec_DropJump.l0 : Nat → Int → List (S27) → Int → Int → Int → Int → Int → List (S27) → Option (Int × Int × Int × (List (S27)) × Bool)
 | 0, _, _, _, _, _, _, _, _ => none
 | k + 1, x1, x14, x15, x16, xBE000, xBE001, xBE002, xBE003 => if x16 < x15 then (if 0 ≤ x16 then (if x16 < (x14.length : Int) then (if ((rd_T27 x14 x16).f0) = x1 then ((some (([] : List (S27)) : List (S27))).bind fun yBI => (if x16 ≤ (xBE003.length : Int) then ((some (xBE003.take (x16 : Int).toNat : List (S27))).bind fun yBL => (if yBI.length + yBL.length < 8796093022208 then ((some (yBI ++ yBL : List (S27))).bind fun yBP => (if 0 ≤ (wrap64 (x16 + 1)) then (if (wrap64 (x16 + 1)) ≤ (xBE003.length : Int) then ((some (xBE003.drop ((wrap64 (x16 + 1)) : Int).toNat : List (S27))).bind fun yBS => (if yBP.length + yBS.length < 8796093022208 then (some (xBE000, xBE001, xBE002, (yBP ++ yBS), true)) else (none))) else (none)) else (none))) else (none))) else (none))) else (spec_DropJump.l0 k x1 x14 x15 (wrap64 (x16 + 1)) xBE000 xBE001 xBE002 xBE003)) else (none)) else (none)) else (some (0, 0, 0, ([] : List (S27)), false))
def spec_DropJump.f (k : Nat) (a0_0 : Int) (a0_1 : Int) (a0_2 : Int) (l0_3 : List (S27)) (a1 : Int) : Option (Int × Int × Int × (List (S27)) × Bool) := (spec_sqGood.f k a0_0 a0_1 a0_2 l0_3).bind fun tBF => (if tBF = true then (spec_DropJump.l0 k a1 l0_3 (l0_3.length : Int) 0 a0_0 a0_1 a0_2 l0_3) else (some (0, 0, 0, ([] : List (S27)), false)))
def spec_DropJump.T7 : Bool × List (List Nat × List Nat) := (true, [([], []), ([], []), ([1], [1]), ([], []), ([2, 3], [2, 3]), ([0, 4], [0, 4]), ([], []), ([6], [6]), ([], []), ([8], [8]), ([7, 9], [7, 9]), ([5, 10, 5], [5, 10]), ([11, 11, 0, 1, 2, 3, 4, 5, 6, 7, 8, 9, 10, 11], [11])])
def spec_DropJump.B7 : List Nat := [0, 0, 2, 0, 14, 31, 0, 64, 0, 256, 960, 2047, 4095]
theorem spec_DropJump.tab7 : rtab .any (opsOf Try.f112 7) = spec_DropJump.T7 := by kernel_rfl
theorem spec_DropJump.bits7 : waitsOk spec_DropJump.T7.2 spec_DropJump.B7 = true := by kernel_rfl
set_option maxHeartbeats 8000000 in
set_option maxRecDepth 100000 in
theorem spec_DropJump.calls (k : Nat) (a0_0 : Int) (a0_1 : Int) (a0_2 : Int) (A0_3 : Option Addr) (c0_3 : Nat) (l0_3 : List (S27)) (a1 : Int) (r1 : Int) (r2 : Int) (r3 : Int) (r4 : List (S27)) (r5 : Bool) (w : World) (hr0_3 : Kd.C k27 w A0_3 l0_3.length l0_3) (hc0_3 : l0_3.length ≤ c0_3) (h : spec_DropJump.f k a0_0 a0_1 a0_2 l0_3 a1 = some (r1, r2, r3, r4, r5)) :
  Calls Try.prog 112 #[.agg #[.int .i64 a0_0, .int .i64 a0_1, .int .i64 a0_2, .slice A0_3 l0_3.length c0_3], .int .i64 a1] w fun e w' => ∃ v3_ : Value, e = .returned (.tuple #[.agg #[.int .i64 r1, .int .i64 r2, .int .i64 r3, v3_], .bool r5]) ∧ Kd.R k27 27 w' w.heap.size (fun _ => True) v3_ r4 ∧ Below w.heap.size w w' := by
 have hu32 := Try.underlying32
 have hu27 := Try.underlying27
 have HR0_3 := Aside0.mk hr0_3
 have HC0_3 := Aside0.mk hc0_3
 clear hr0_3 hc0_3
 have HB := Aside0.mk (Below.refl w.heap.size w)
 have H : ((spec_sqGood.f k a0_0 a0_1 a0_2 l0_3).bind fun tBF => (if tBF = true then (spec_DropJump.l0 k a1 l0_3 (l0_3.length : Int) 0 a0_0 a0_1 a0_2 l0_3) else (some (0, 0, 0, ([] : List (S27)), false)))) = some (r1, r2, r3, r4, r5) := h
 clear h
 replace H := Option.bind_eq_some_iff.mp H
 obtain ⟨tBF, A30, H⟩ := H
 replace H : (if tBF = true then (spec_DropJump.l0 k a1 l0_3 (l0_3.length : Int) 0 a0_0 a0_1 a0_2 l0_3) else (some (0, 0, 0, ([] : List (S27)), false))) = some (r1, r2, r3, r4, r5) := H
 have A3 := Aside0.mk A30
 clear A30
 by_cases c4 : tBF = true
 ·subst c4
  have H1 : (spec_DropJump.l0 k a1 l0_3 (l0_3.length : Int) 0 a0_0 a0_1 a0_2 l0_3) = some (r1, r2, r3, r4, r5) := by rw [if_pos rfl] at H; exact H
  clear H
  have H := H1
  clear H1
  have H' := Aside0.mk H
  clear H
  go_enter Try.func112, Try.ntmps112
  go_wp2_with (first | ((with_reducible refine gate_dst (N := 2) rfl ?_); refine box_event ?hg (N := 2) ?hd (cs := #[.int .i64 a0_0, .int .i64 a0_1, .int .i64 a0_2, .slice A0_3 l0_3.length c0_3]) (t := 32) ?hr ?_; (case hd => rfl); (case hg => rfl); (case hr => first | (go_simp; done) | (go_simp; rfl)); intro gbBD hg w5 hbox hb; have n0_ := Aside0.mk (below_step belS hb); have n1_ := Aside0.mk (hbox); have n2_ := Aside0.mk ((by rw [hg]; exact (below_size belS) : w.heap.size ≤ gbBD)); have n3_ := n2_; clear HB; have HB := n0_; have BKBD := n1_; have GWBD := n2_; have GEBD := n3_; clear n0_ n1_ n2_ n3_; clear hb hbox hg) | ((with_reducible refine gate_dst (N := 4) rfl ?_); refine box_event ?hg (N := 4) ?hd (cs := #[.int .i64 0, .int .i64 0, .int .i64 0, .slice none 0 0]) (t := 32) ?hr ?_; (case hd => rfl); (case hg => rfl); (case hr => first | (go_simp; done) | (go_simp; rfl)); intro gbBE hg w6 hbox hb; have n0_ := Aside0.mk (blk_below (blk_up BKBD.out) hb); have n1_ := Aside0.mk (below_step belS hb); have n2_ := Aside0.mk (hbox); have n3_ := Aside0.mk ((by rw [hg]; exact (below_size belS) : w.heap.size ≤ gbBE)); have n4_ := n3_; have n5_ := Aside0.mk ((by rw [hg]; exact Nat.ne_of_lt (blk_lt (blk_up BKBD.out)) : gbBD ≠ gbBE)); have n6_ := Aside0.mk ((by rw [hg]; exact Nat.ne_of_gt (blk_lt (blk_up BKBD.out)) : gbBE ≠ gbBD)); clear BKBD; clear HB; have BKBD := n0_; have HB := n1_; have BKBE := n2_; have GWBE := n3_; have GEBE := n4_; have NBBD_BE := n5_; have NBBE_BD := n6_; clear n0_ n1_ n2_ n3_ n4_ n5_ n6_; clear hb hbox hg; have hnb7 := NBBD_BE.out; have hnc7 := NBBE_BD.out; obtain ⟨hcz8_0, hcz8_1, hcz8_2, hcz8_3, hfz8_0, hfz8_1, hfz8_2, hfz8_3⟩ := blk4 BKBD.out) | ((with_reducible refine gate_callee (f := 125) rfl ?_); refine goesL_ (some 10) rfl rfl Try.func125 (by kernel_rfl) rfl #[.agg #[.int .i64 a0_0, .int .i64 a0_1, .int .i64 a0_2, .slice A0_3 l0_3.length c0_3]] rfl argS ?_; (with_reducible refine (spec_sqGood.calls k a0_0 a0_1 a0_2 _ _ l0_3 true _ ?side1 ?side2 A3.out).mono ?_); (case side1 => exact Kd.C_up (Kd.C_below HR0_3.out HB.out)); (case side2 => exact HC0_3.out); rintro e w9 ⟨rfl, hb⟩; refine ⟨_, rfl, ?_⟩; have n0_ := Aside0.mk (blk_below (blk_up BKBD.out) hb); have n1_ := Aside0.mk (blk_below (blk_up BKBE.out) hb); have n2_ := Aside0.mk (below_step belS hb); clear BKBD; clear BKBE; clear HB; have BKBD := n0_; have BKBE := n1_; have HB := n2_; clear n0_ n1_ n2_; (try clear hb); (try clear hb2); (try clear hk); (try clear hi); obtain ⟨hcz10_0, hcz10_1, hcz10_2, hcz10_3, hfz10_0, hfz10_1, hfz10_2, hfz10_3⟩ := blk4 BKBD.out))
  go_loopg [16] k (fun kq v16 w' => ∃ (x16_1 : Int) (xBF000_1 : Int) (xBF001_1 : Int) (xBF002_1 : Int), v16 = .int .i64 x16_1 ∧ Aside0 (spec_DropJump.l0 kq a1 l0_3 (l0_3.length : Int) x16_1 a0_0 a0_1 a0_2 l0_3 = some (r1, r2, r3, r4, r5)) ∧ Aside0 (kq ≤ k) ∧ Aside0 (w'.heap[gbBD]? = some (.cells #[.int .i64 a0_0, .int .i64 a0_1, .int .i64 a0_2, (.slice A0_3 l0_3.length c0_3)] 32 (0, 0))) ∧ Aside0 (w'.heap[gbBE]? = some (.cells #[.int .i64 xBF000_1, .int .i64 xBF001_1, .int .i64 xBF002_1, (.slice none 0 0)] 32 (0, 0))) ∧ Aside0 (Below w.heap.size w w'))
  case atStart => exact ⟨(0), (0), (0), (0), (by first | rfl | (simp; done) | (simp [*]; done)), H', ⟨Nat.le_refl _⟩, ⟨by (with_reducible repeat (first | refine blk_drewN ?_ _ | refine blk_drew ?_ | refine blk_alloc ?_ _)); exact BKBD.out⟩, ⟨by (with_reducible repeat (first | refine blk_drewN ?_ _ | refine blk_drew ?_ | refine blk_alloc ?_ _)); exact BKBE.out⟩, ⟨by exact belS⟩⟩
  case round =>
   clear H'
   try clear c1
   try clear p2
   try clear c4
   try clear c7
   try clear hcz10_0 hcz10_1 hcz10_2 hcz10_3
   try clear hcz8_0 hcz8_1 hcz8_2 hcz8_3
   try clear hfz10_0 hfz10_1 hfz10_2 hfz10_3
   try clear hfz8_0 hfz8_1 hfz8_2 hfz8_3
   obtain ⟨x16_1, xBF000_1, xBF001_1, xBF002_1, rfl, HA, HK1, BKBD, BKBE, HB⟩ := hrel
   cases gk with
   | zero => exact absurd HA.out (by simp [spec_DropJump.l0])
   | succ k1 =>
    have H := HA.out
    clear HA
    simp only [spec_DropJump.l0] at H
    by_cases c11 : x16_1 < (l0_3.length : Int)
    ·rw [if_pos c11] at H
     have c11b0 : decide (x16_1 < (l0_3.length : Int)) = true := decide_eq_true c11
     clear c11
     by_cases c12 : 0 ≤ x16_1
     ·rw [if_pos c12] at H
      have c12b0 : decide (0 ≤ x16_1) = true := decide_eq_true c12
      clear c12
      by_cases c13 : x16_1 < (l0_3.length : Int)
      ·rw [if_pos c13] at H
       have c13b0 : decide (x16_1 < (l0_3.length : Int)) = true := decide_eq_true c13
       clear c13
       by_cases c14 : ((rd_T27 l0_3 x16_1).f0) = a1
       ·rw [if_pos c14] at H
        have c14b0 : (((rd_T27 l0_3 x16_1).f0) == a1) = true := beq_iff_eq.mpr c14
        have c14b1 : (((rd_T27 l0_3 x16_1).f0) != a1) = false := bne_eq_false_iff_eq.mpr c14
        clear c14
        obtain ⟨yBI, hyBI⟩ : ∃ y_ : List (S27), y_ = (([] : List (S27))) := ⟨_, rfl⟩
        replace H : (if x16_1 ≤ (l0_3.length : Int) then ((some (l0_3.take (x16_1 : Int).toNat : List (S27))).bind fun yBL => (if yBI.length + yBL.length < 8796093022208 then ((some (yBI ++ yBL : List (S27))).bind fun yBP => (if 0 ≤ (wrap64 (x16_1 + 1)) then (if (wrap64 (x16_1 + 1)) ≤ (l0_3.length : Int) then ((some (l0_3.drop ((wrap64 (x16_1 + 1)) : Int).toNat : List (S27))).bind fun yBS => (if yBP.length + yBS.length < 8796093022208 then (some (a0_0, a0_1, a0_2, (yBP ++ yBS), true)) else (none))) else (none)) else (none))) else (none))) else (none)) = some (r1, r2, r3, r4, r5) := by first | (rw [hyBI]; with_reducible exact H) | (have H2_ := (Option.bind_some _ _).symm.trans H; rw [hyBI]; with_reducible exact H2_) | (have H2_ := (Option.bind_some _ _).symm.trans H; with_reducible exact H2_) | with_reducible exact H | (rw [hyBI]; exact H) | exact H
        have NyBI := Aside0.mk hyBI
        clear hyBI
        have c15b0 := eq_true (of_decide_eq_true (by first | (with_reducible assumption) | assumption) : 0 ≤ x16_1)
        by_cases c16 : x16_1 ≤ (l0_3.length : Int)
        ·rw [if_pos c16] at H
         have c16b0 := eq_true c16
         have c16b1 : decide (x16_1 ≤ (l0_3.length : Int)) = true := decide_eq_true c16
         clear c16
         obtain ⟨yBL, hyBL⟩ : ∃ y_ : List (S27), y_ = (l0_3.take (x16_1 : Int).toNat) := ⟨_, rfl⟩
         replace H : (if yBI.length + yBL.length < 8796093022208 then ((some (yBI ++ yBL : List (S27))).bind fun yBP => (if 0 ≤ (wrap64 (x16_1 + 1)) then (if (wrap64 (x16_1 + 1)) ≤ (l0_3.length : Int) then ((some (l0_3.drop ((wrap64 (x16_1 + 1)) : Int).toNat : List (S27))).bind fun yBS => (if yBP.length + yBS.length < 8796093022208 then (some (a0_0, a0_1, a0_2, (yBP ++ yBS), true)) else (none))) else (none)) else (none))) else (none)) = some (r1, r2, r3, r4, r5) := by first | (rw [hyBL]; with_reducible exact H) | (have H2_ := (Option.bind_some _ _).symm.trans H; rw [hyBL]; with_reducible exact H2_) | (have H2_ := (Option.bind_some _ _).symm.trans H; with_reducible exact H2_) | with_reducible exact H | (rw [hyBL]; exact H) | exact H
         have NyBL := Aside0.mk hyBL
         clear hyBL
         by_cases c17 : yBI.length + yBL.length < 8796093022208
         ·rw [if_pos c17] at H
          have LMc17 := Aside0.mk c17
          clear c17
          obtain ⟨yBP, hyBP⟩ : ∃ y_ : List (S27), y_ = (yBI ++ yBL) := ⟨_, rfl⟩
          replace H : (if 0 ≤ (wrap64 (x16_1 + 1)) then (if (wrap64 (x16_1 + 1)) ≤ (l0_3.length : Int) then ((some (l0_3.drop ((wrap64 (x16_1 + 1)) : Int).toNat : List (S27))).bind fun yBS => (if yBP.length + yBS.length < 8796093022208 then (some (a0_0, a0_1, a0_2, (yBP ++ yBS), true)) else (none))) else (none)) else (none)) = some (r1, r2, r3, r4, r5) := by first | (rw [hyBP]; with_reducible exact H) | (have H2_ := (Option.bind_some _ _).symm.trans H; rw [hyBP]; with_reducible exact H2_) | (have H2_ := (Option.bind_some _ _).symm.trans H; with_reducible exact H2_) | with_reducible exact H | (rw [hyBP]; exact H) | exact H
          have NyBP := Aside0.mk hyBP
          clear hyBP
          obtain ⟨ji18, hji18⟩ : ∃ j_ : Int, (wrap64 (x16_1 + 1)) = j_ := ⟨_, rfl⟩
          replace H : (if 0 ≤ (ji18) then (if (ji18) ≤ (l0_3.length : Int) then ((some (l0_3.drop ((ji18) : Int).toNat : List (S27))).bind fun yBS => (if yBP.length + yBS.length < 8796093022208 then (some (a0_0, a0_1, a0_2, (yBP ++ yBS), true)) else (none))) else (none)) else (none)) = some (r1, r2, r3, r4, r5) := by first | (rw [hji18] at H; exact H) | (simp only [hji18] at H ⊢; exact H)
          have hji18w : (IntKind.i64.wrap (x16_1 + 1)) = ji18 := (i64_w _).trans hji18
          by_cases c19 : 0 ≤ (ji18)
          ·rw [if_pos c19] at H
           have c19b0 := eq_true c19
           have c19b1 : decide (0 ≤ (ji18)) = true := decide_eq_true c19
           clear c19
           by_cases c20 : (ji18) ≤ (l0_3.length : Int)
           ·rw [if_pos c20] at H
            have c20b0 := eq_true c20
            have c20b1 : decide ((ji18) ≤ (l0_3.length : Int)) = true := decide_eq_true c20
            clear c20
            obtain ⟨yBS, hyBS⟩ : ∃ y_ : List (S27), y_ = (l0_3.drop ((ji18) : Int).toNat) := ⟨_, rfl⟩
            replace H : (if yBP.length + yBS.length < 8796093022208 then (some (a0_0, a0_1, a0_2, (yBP ++ yBS), true)) else (none)) = some (r1, r2, r3, r4, r5) := by first | (rw [hyBS]; with_reducible exact H) | (have H2_ := (Option.bind_some _ _).symm.trans H; rw [hyBS]; with_reducible exact H2_) | (have H2_ := (Option.bind_some _ _).symm.trans H; with_reducible exact H2_) | with_reducible exact H | (rw [hyBS]; exact H) | exact H
            have NyBS := Aside0.mk hyBS
            clear hyBS
            by_cases c21 : yBP.length + yBS.length < 8796093022208
            ·rw [if_pos c21] at H
             have LMc21 := Aside0.mk c21
             clear c21
             obtain ⟨yBW, hyBW⟩ : ∃ y_ : List (S27), y_ = (yBP ++ yBS) := ⟨_, rfl⟩
             replace H : (some (a0_0, a0_1, a0_2, yBW, true)) = some (r1, r2, r3, r4, r5) := by first | (rw [hyBW]; with_reducible exact H) | (have H2_ := (Option.bind_some _ _).symm.trans H; rw [hyBW]; with_reducible exact H2_) | (have H2_ := (Option.bind_some _ _).symm.trans H; with_reducible exact H2_) | with_reducible exact H | (rw [hyBW]; exact H) | exact H
             have NyBW := Aside0.mk hyBW
             clear hyBW
             simp only [Option.some.injEq, Prod.mk.injEq] at H
             obtain ⟨rfl, rfl, rfl, rfl, rfl⟩ := H
             have pBG : 0 ≤ (x16_1 : Int) := of_decide_eq_true (by first | (with_reducible assumption) | assumption)
             have qBG : x16_1 < (l0_3.length : Int) := of_decide_eq_true (by first | (with_reducible assumption) | assumption)
             obtain ⟨adBG, eBG, hxBG_0, hxBG_1⟩ := at_T27 HR0_3.out x16_1 pBG qBG
             cases eBG
             first | (replace hxBG_0 := (HB.out.cell (World.block_lt_of_cell? w _ hxBG_0)).trans hxBG_0) | skip
             first | (replace hxBG_1 := (HB.out.cell (World.block_lt_of_cell? w _ hxBG_1)).trans hxBG_1) | skip
             replace pBG := eq_true pBG
             replace qBG := eq_true qBG
             try go_wp2_with (first | ((with_reducible refine gate_dst (N := 7) rfl ?_); refine box_event ?hg (N := 7) ?hd (cs := #[.int .i64 0, .int .i64 0]) (t := 27) ?hr ?_; (case hd => rfl); (case hg => rfl); (case hr => first | (go_simp; done) | (go_simp; rfl)); intro gbBH hg w22 hbox hb; have n0_ := Aside0.mk (blk_below (blk_up BKBD.out) hb); have n1_ := Aside0.mk (blk_below (blk_up BKBE.out) hb); have n2_ := Aside0.mk (below_step belS hb); have n3_ := Aside0.mk (hbox); have n4_ := Aside0.mk ((by rw [hg]; exact (below_size belS) : w.heap.size ≤ gbBH)); have n5_ := n4_; have n6_ := Aside0.mk ((by rw [hg]; exact Nat.ne_of_lt (blk_lt (blk_up BKBD.out)) : gbBD ≠ gbBH)); have n7_ := Aside0.mk ((by rw [hg]; exact Nat.ne_of_gt (blk_lt (blk_up BKBD.out)) : gbBH ≠ gbBD)); have n8_ := Aside0.mk ((by rw [hg]; exact Nat.ne_of_lt (blk_lt (blk_up BKBE.out)) : gbBE ≠ gbBH)); have n9_ := Aside0.mk ((by rw [hg]; exact Nat.ne_of_gt (blk_lt (blk_up BKBE.out)) : gbBH ≠ gbBE)); clear BKBD; clear BKBE; clear HB; have BKBD := n0_; have BKBE := n1_; have HB := n2_; have BKBH := n3_; have GWBH := n4_; have GEBH := n5_; have NBBD_BH := n6_; have NBBH_BD := n7_; have NBBE_BH := n8_; have NBBH_BE := n9_; clear n0_ n1_ n2_ n3_ n4_ n5_ n6_ n7_ n8_ n9_; clear hb hbox hg; have hnb23 := NBBH_BD.out; have hnc23 := NBBD_BH.out; have hnb24 := NBBH_BE.out; have hnc24 := NBBE_BH.out; obtain ⟨hcz25_0, hcz25_1, hfz25_0, hfz25_1⟩ := blk2 BKBH.out))
             have n0_ : Aside0 (((w22.setCell ⟨gbBH, 0, none⟩ (.int .i64 ((rd_T27 l0_3 x16_1).f0))).setCell ⟨gbBH, 1, none⟩ (.int .i64 ((rd_T27 l0_3 x16_1).f1))).heap[gbBD]? = some (.cells #[.int .i64 a0_0, .int .i64 a0_1, .int .i64 a0_2, .slice (some adBG) l0_3.length c0_3] 32 (0, 0))) := ⟨by (with_reducible repeat (first | refine blk_drewN ?_ _ | refine blk_drew ?_ | refine blk_alloc ?_ _)); refine blk_far ?_ NBBD_BH.out _; (with_reducible repeat (first | refine blk_drewN ?_ _ | refine blk_drew ?_ | refine blk_alloc ?_ _)); refine blk_far ?_ NBBD_BH.out _; (with_reducible repeat (first | refine blk_drewN ?_ _ | refine blk_drew ?_ | refine blk_alloc ?_ _)); exact BKBD.out⟩
             have n1_ : Aside0 (((w22.setCell ⟨gbBH, 0, none⟩ (.int .i64 ((rd_T27 l0_3 x16_1).f0))).setCell ⟨gbBH, 1, none⟩ (.int .i64 ((rd_T27 l0_3 x16_1).f1))).heap[gbBE]? = some (.cells #[.int .i64 xBF000_1, .int .i64 xBF001_1, .int .i64 xBF002_1, .slice none 0 0] 32 (0, 0))) := ⟨by (with_reducible repeat (first | refine blk_drewN ?_ _ | refine blk_drew ?_ | refine blk_alloc ?_ _)); refine blk_far ?_ NBBE_BH.out _; (with_reducible repeat (first | refine blk_drewN ?_ _ | refine blk_drew ?_ | refine blk_alloc ?_ _)); refine blk_far ?_ NBBE_BH.out _; (with_reducible repeat (first | refine blk_drewN ?_ _ | refine blk_drew ?_ | refine blk_alloc ?_ _)); exact BKBE.out⟩
             have n2_ : Aside0 (((w22.setCell ⟨gbBH, 0, none⟩ (.int .i64 ((rd_T27 l0_3 x16_1).f0))).setCell ⟨gbBH, 1, none⟩ (.int .i64 ((rd_T27 l0_3 x16_1).f1))).heap[gbBH]? = some (.cells #[.int .i64 ((rd_T27 l0_3 x16_1).f0), .int .i64 ((rd_T27 l0_3 x16_1).f1)] 27 (0, 0))) := ⟨by (with_reducible repeat (first | refine blk_drewN ?_ _ | refine blk_drew ?_ | refine blk_alloc ?_ _)); refine blk_put (cs := #[.int .i64 ((rd_T27 l0_3 x16_1).f0), .int .i64 0]) ?_ 1 _ rfl; (with_reducible repeat (first | refine blk_drewN ?_ _ | refine blk_drew ?_ | refine blk_alloc ?_ _)); refine blk_put (cs := #[.int .i64 0, .int .i64 0]) ?_ 0 _ rfl; (with_reducible repeat (first | refine blk_drewN ?_ _ | refine blk_drew ?_ | refine blk_alloc ?_ _)); exact BKBH.out⟩
             have n3_ : Aside0 (Below w.heap.size w ((w22.setCell ⟨gbBH, 0, none⟩ (.int .i64 ((rd_T27 l0_3 x16_1).f0))).setCell ⟨gbBH, 1, none⟩ (.int .i64 ((rd_T27 l0_3 x16_1).f1)))) := ⟨by exact belS⟩
             (try clear BKBD)
             (try clear BKBE)
             (try clear BKBH)
             (try clear HB)
             generalize ((w22.setCell ⟨gbBH, 0, none⟩ (.int .i64 ((rd_T27 l0_3 x16_1).f0))).setCell ⟨gbBH, 1, none⟩ (.int .i64 ((rd_T27 l0_3 x16_1).f1))) = w26 at n0_ n1_ n2_ n3_ ⊢
             have BKBD := n0_
             have BKBE := n1_
             have BKBH := n2_
             have HB := n3_
             clear n0_ n1_ n2_ n3_
             have n0_ := Aside0.mk (blk_drew BKBD.out)
             have n1_ := Aside0.mk (blk_drew BKBE.out)
             have n2_ := Aside0.mk (blk_drew BKBH.out)
             have n3_ := Aside0.mk (below_drew1 HB.out)
             clear BKBD
             clear BKBE
             clear BKBH
             clear HB
             have BKBD := n0_
             have BKBE := n1_
             have BKBH := n2_
             have HB := n3_
             clear n0_ n1_ n2_ n3_
             have q28 : (x16_1 : Int) ≤ ((l0_3.length : Int) : Int) := of_decide_eq_true (by first | (with_reducible assumption) | assumption)
             obtain ⟨i028, hi028, _, hsz28, _⟩ := info_parts info27
             have hroom28 : l0_3.length ≤ c0_3 := HC0_3.out
             have hC28 : Kd.C k27 _ (some adBG) l0_3.length l0_3 := HR0_3.out
             have hcut28 := cut_to (P := Try.prog) 30 27 .i64 Try.underlying30 hi028 (some adBG) l0_3.length c0_3 x16_1 (of_decide_eq_true (by first | (with_reducible assumption) | assumption)) q28 hroom28
             have hr28 := Kd.C_take (m := (x16_1 : Int).toNat) hC28 (by omega)
             have hy28 : yBL.length = (x16_1 : Int).toNat := (by rw [NyBL.out, List.length_take]; omega)
             rw [← NyBL.out] at hr28
             rw [← hy28] at hcut28
             have HRBO := Aside0.mk hr28
             have HCBO := Aside0.mk (show yBL.length ≤ c0_3 from by omega)
             clear hr28 hC28 hroom28 hi028 hsz28
             have KY28 := Aside0.mk hy28
             clear hy28
             replace q28 := eq_true q28
             have q29 : ((ji18) : Int) ≤ ((l0_3.length : Int) : Int) := of_decide_eq_true (by first | (with_reducible assumption) | assumption)
             obtain ⟨i029, hi029, _, hsz29, _⟩ := info_parts info27
             have hroom29 : l0_3.length ≤ c0_3 := HC0_3.out
             have hC29 : Kd.C k27 _ (some adBG) l0_3.length l0_3 := HR0_3.out
             have q029 : (0 : Int) ≤ ((ji18) : Int) := of_decide_eq_true (by first | (with_reducible assumption) | assumption)
             have hcut29 := cut_from (P := Try.prog) 30 27 .i64 Try.underlying30 hi029 2 hsz29 (some adBG) l0_3.length c0_3 (ji18) q029 q29
             have hr29 := Kd.C_drop (m := ((ji18) : Int).toNat) (c := c0_3) hC29 (by omega) hroom29
             obtain ⟨A29, hA29⟩ : ∃ A1, A1 = (if c0_3 = ((ji18) : Int).toNat then (some adBG) else ((some adBG) : Option Addr).map (·.add (((ji18) : Int).toNat * 2))) := ⟨_, rfl⟩
             obtain ⟨c29, hc29⟩ : ∃ c1, c1 = c0_3 - ((ji18) : Int).toNat := ⟨_, rfl⟩
             have hy29 : yBS.length = l0_3.length - ((ji18) : Int).toNat := (by rw [NyBS.out, List.length_drop] <;> omega)
             rw [show (l0_3).drop ((ji18) : Int).toNat = yBS from NyBS.out.symm] at hr29
             replace hr29 : Kd.C k27 _ A29 yBS.length yBS := (by rw [hA29]; exact hr29)
             rw [← hy29, ← hA29, ← hc29] at hcut29
             have HRBV := Aside0.mk hr29
             have HCBV := Aside0.mk (show yBS.length ≤ c29 from by rw [hy29, hc29]; exact Nat.sub_le_sub_right hroom29 _)
             clear hr29 hC29 hroom29 hi029 hsz29 hc29
             have KY29 := Aside0.mk hy29
             have KA29 := Aside0.mk hA29
             clear hy29 hA29
             replace q29 := eq_true q29
             refine start_ (n := 13) (S := fun w' => w'.cell? ⟨gbBD, 0, none⟩ = some (.int .i64 a0_0) ∧ w'.cell? ⟨gbBD, 1, none⟩ = some (.int .i64 a0_1) ∧ w'.cell? ⟨gbBD, 2, none⟩ = some (.int .i64 a0_2) ∧ w'.cell? ⟨gbBD, 3, none⟩ = some (.slice (some adBG) l0_3.length c0_3)) (ds := []) #[false, false, false, false, false, false, false, false, false, false, false, false, false] (by kernel_rfl) rfl rfl ⟨(blk_cell BKBD.out 0).trans rfl, (blk_cell BKBD.out 1).trans rfl, (blk_cell BKBD.out 2).trans rfl, (blk_cell BKBD.out 3).trans rfl⟩ (fun hHeld => ?_); refine with_tabW spec_DropJump.tab7 spec_DropJump.bits7 (fun HT_ HW_ => ?_)
             generalize w26.drew = w27 at BKBD BKBE BKBH HB HRBO HRBV hHeld ⊢
             refine pure_ (i := 1) (N := some 26) (v := ?_) (a' := ?_) #[false, true, false, false, false, false, false, false, false, false, false, false, false] rfl rfl (any_of HT_.out (by kernel_rfl)) (fun _ _ _ h => h) (Or.inl ⟨by rfl, ?_⟩) ?_ ?_
             rotate_left
             ·intro w'
              go_simp
              with_reducible rfl
             rotate_left
             ·simp only [Act.put, List.setIfInBounds_toArray, List.set_cons_zero, List.set_cons_succ, i64_w, i32_w]
              rfl
             refine pure_ (i := 3) (N := some 28) (v := ?_) (a' := ?_) #[false, true, false, true, false, false, false, false, false, false, false, false, false] rfl rfl (any_of HT_.out (by kernel_rfl)) (fun _ _ _ h => h) (Or.inl ⟨by rfl, ?_⟩) ?_ ?_
             rotate_left
             ·intro w'
              go_simp
              with_reducible rfl
             rotate_left
             ·simp only [Act.put, List.setIfInBounds_toArray, List.set_cons_zero, List.set_cons_succ, i64_w, i32_w]
              rfl
             refine pure_ (i := 6) (N := some 31) (v := ?_) (a' := ?_) #[false, true, false, true, false, false, true, false, false, false, false, false, false] rfl rfl (any_of HT_.out (by kernel_rfl)) (fun _ _ _ h => h) (Or.inl ⟨by rfl, ?_⟩) ?_ ?_
             rotate_left
             ·intro w'
              go_simp
              with_reducible rfl
             rotate_left
             ·simp only [Act.put, List.setIfInBounds_toArray, List.set_cons_zero, List.set_cons_succ, i64_w, i32_w]
              rfl
             refine pure_ (i := 8) (N := some 33) (v := ?_) (a' := ?_) #[false, true, false, true, false, false, true, false, true, false, false, false, false] rfl rfl (any_of HT_.out (by kernel_rfl)) (fun _ _ _ h => h) (Or.inl ⟨by rfl, ?_⟩) ?_ ?_
             rotate_left
             ·intro w'
              go_simp
              with_reducible rfl
             rotate_left
             ·simp only [Act.put, List.setIfInBounds_toArray, List.set_cons_zero, List.set_cons_succ, i64_w, i32_w]
              rfl
             refine pure_ (i := 9) (N := some 34) (v := ?_) (a' := ?_) #[false, true, false, true, false, false, true, false, true, true, false, false, false] rfl rfl (any_of HT_.out (by kernel_rfl)) (fun _ _ _ h => h) (Or.inl ⟨by rfl, ?_⟩) ?_ ?_
             rotate_left
             ·intro w'
              go_simp
              with_reducible rfl
             rotate_left
             ·simp only [Act.put, List.setIfInBounds_toArray, List.set_cons_zero, List.set_cons_succ, i64_w, i32_w]
              rfl
             refine take_ (i := 2) (N := some 27) (v := ?_) (a' := ?_) #[false, true, true, true, false, false, true, false, true, true, false, false, false] rfl rfl (take_ofW HT_.out HW_.out (by kernel_rfl)) (fun _ _ _ h => h) (Or.inl ⟨by rfl, ?_⟩) hHeld ?_ ?_
             rotate_left
             ·rintro w' ⟨s0, s1, s2, s3⟩
              go_simp
              with_reducible rfl
             rotate_left
             ·simp only [Act.put, List.setIfInBounds_toArray, List.set_cons_zero, List.set_cons_succ, i64_w, i32_w]
              rfl
             refine pure_ (i := 4) (N := some 29) (v := ?_) (a' := ?_) #[false, true, true, true, true, false, true, false, true, true, false, false, false] rfl rfl (any_of HT_.out (by kernel_rfl)) (fun _ _ _ h => h) (Or.inl ⟨by rfl, ?_⟩) ?_ ?_
             rotate_left
             ·intro w'
              go_simp
              with_reducible rfl
             rotate_left
             ·simp only [Act.put, List.setIfInBounds_toArray, List.set_cons_zero, List.set_cons_succ, i64_w, i32_w]
              rfl
             refine take_ (i := 7) (N := some 32) (v := ?_) (a' := ?_) #[false, true, true, true, true, false, true, true, true, true, false, false, false] rfl rfl (take_ofW HT_.out HW_.out (by kernel_rfl)) (fun _ _ _ h => h) (Or.inl ⟨by rfl, ?_⟩) hHeld ?_ ?_
             rotate_left
             ·rintro w' ⟨s0, s1, s2, s3⟩
              go_simp
              with_reducible rfl
             rotate_left
             ·simp only [Act.put, List.setIfInBounds_toArray, List.set_cons_zero, List.set_cons_succ, i64_w, i32_w]
              rfl
             refine pure_ (i := 10) (N := some 35) (v := ?_) (a' := ?_) #[false, true, true, true, true, false, true, true, true, true, true, false, false] rfl rfl (any_of HT_.out (by kernel_rfl)) (fun _ _ _ h => h) (Or.inl ⟨by rfl, ?_⟩) ?_ ?_
             rotate_left
             ·intro w'
              go_simp
              with_reducible rfl
             rotate_left
             ·simp only [Act.put, List.setIfInBounds_toArray, List.set_cons_zero, List.set_cons_succ, i64_w, i32_w]
              rfl
             refine one_ (i := 0) (N := some 25) #[true, true, true, true, true, false, true, true, true, true, true, false, false] rfl rfl (one_of HT_.out (by kernel_rfl)) (by decide) (fun K hK => ?_)
             refine Kd.R_lit_step k27 _ 27 ?hg (N := 25) ?hd (xs := ([] : List (S27))) (inner := []) (ok := fun _ => True) (okp := fun _ => True) ?hr ?hp (fun _ hk => hk) trivial (Below.refl _ _) (Nat.le_refl _) (by simp) ?_; (case hd => rfl); (case hg => rfl); (case hr => first | (go_simp; done) | (go_simp; rfl)); (case hp => exact (Reps.none _ _))
             intro vBJ w30 ho31 hb hg_ hnew_
             clear hg_ hnew_
             (first | rw [← NyBI.out] at ho31 | (simp only [Int.reduceToNat] at ho31; rw [← NyBI.out] at ho31))
             have n0_ := Aside0.mk (Kd.R_lower (Kd.R_newB ho31 (g := gbBH) (o := .cells #[.int .i64 ((rd_T27 l0_3 x16_1).f0), .int .i64 ((rd_T27 l0_3 x16_1).f1)] 27 (0, 0)) (blk_up BKBH.out)) (below_size belS))
             have n1_ := Aside0.mk (blk_below (blk_up BKBD.out) hb)
             have n2_ := Aside0.mk (blk_below (blk_up BKBE.out) hb)
             have n3_ := Aside0.mk (blk_below (blk_up BKBH.out) hb)
             have n4_ := Aside0.mk (below_step belS hb)
             clear BKBD
             clear BKBE
             clear BKBH
             clear HB
             have HOBK := n0_
             have BKBD := n1_
             have BKBE := n2_
             have BKBH := n3_
             have HB := n4_
             clear n0_ n1_ n2_ n3_ n4_
             clear hb ho31
             refine hK.out _ _ ⟨(blk_cell BKBD.out 0).trans rfl, (blk_cell BKBD.out 1).trans rfl, (blk_cell BKBD.out 2).trans rfl, (blk_cell BKBD.out 3).trans rfl⟩ (fun hHeld => ?_)
             clear hK K
             refine norm_ (a' := ?_) ?_ ?_
             rotate_left
             ·show Act.put _ (some 25) _ = _
              simp only [Act.put, List.setIfInBounds_toArray, List.set_cons_zero, List.set_cons_succ, i64_w, i32_w]
              rfl
             refine one_ (i := 5) (N := some 30) #[true, true, true, true, true, true, true, true, true, true, true, false, false] rfl rfl (one_of HT_.out (by kernel_rfl)) (by decide) (fun K hK => ?_)
             refine Kd.R_append_rows_step k27 (w0 := w) w.heap.size (by rfl) (.tmp 25) (.tmp 29) 30 27 (.agg #[(.int .i64 0), (.int .i64 0)]) 16 rfl Try.underlying30 info27 rfl (by decide) (by omega) vBJ yBI yBL _ _ _ (fun k_ => k_ ≠ gbBH) (fun _ => False) rfl rfl ?aO ?aR (fun _ _ h => h) (fun _ h => h.elim) ?aF ?aB ?aS ?aL ?_
             (case aR => exact Kd.C_up (Kd.C_below HRBO.out HB.out))
             (case aB => exact belS)
             (case aF => exact (fun k_ hk => Kd.freshB (g := gbBH) (o := .cells #[.int .i64 ((rd_T27 l0_3 x16_1).f0), .int .i64 ((rd_T27 l0_3 x16_1).f1)] 27 (0, 0)) (blk_up BKBH.out) k_ hk))
             (case aO => exact (by (with_reducible repeat (first | apply Kd.R_alloc | apply Kd.R_drewN | apply Kd.R_drew)); exact Kd.R_mono HOBK.out (fun _ hk => hk.2)))
             (case aS => exact (below_size belS))
             (case aL => have := LMc17.out; omega)
             intro vBQ w32 ho hb hg hat
             rw [← NyBP.out] at ho
             have n0_ := Aside0.mk (blk_grown (g := gbBD) (o := .cells #[.int .i64 a0_0, .int .i64 a0_1, .int .i64 a0_2, .slice (some adBG) l0_3.length c0_3] 32 (0, 0)) (blk_up BKBD.out) hg (Kd.R_ne HOBK.out BKBD.out (by decide)))
             have n1_ := Aside0.mk (blk_grown (g := gbBE) (o := .cells #[.int .i64 xBF000_1, .int .i64 xBF001_1, .int .i64 xBF002_1, .slice none 0 0] 32 (0, 0)) (blk_up BKBE.out) hg (Kd.R_ne HOBK.out BKBE.out (by decide)))
             have n2_ := Aside0.mk (blk_grown (g := gbBH) (o := .cells #[.int .i64 ((rd_T27 l0_3 x16_1).f0), .int .i64 ((rd_T27 l0_3 x16_1).f1)] 27 (0, 0)) (blk_up BKBH.out) hg (Kd.R_away HOBK.out (fun _ hk => hk.2)))
             have n3_ := Aside0.mk (hb)
             have n4_ := Aside0.mk (ho)
             clear BKBD
             clear BKBE
             clear BKBH
             clear HB
             clear HOBK
             have BKBD := n0_
             have BKBE := n1_
             have BKBH := n2_
             have HB := n3_
             have HOBR := n4_
             clear n0_ n1_ n2_ n3_ n4_
             clear ho hb hg hat
             refine hK.out _ _ ⟨(blk_cell BKBD.out 0).trans rfl, (blk_cell BKBD.out 1).trans rfl, (blk_cell BKBD.out 2).trans rfl, (blk_cell BKBD.out 3).trans rfl⟩ (fun hHeld => ?_)
             clear hK K
             refine norm_ (a' := ?_) ?_ ?_
             rotate_left
             ·show Act.put _ (some 30) _ = _
              simp only [Act.put, List.setIfInBounds_toArray, List.set_cons_zero, List.set_cons_succ, i64_w, i32_w]
              rfl
             refine one_ (i := 11) (N := some 36) #[true, true, true, true, true, true, true, true, true, true, true, true, false] rfl rfl (one_of HT_.out (by kernel_rfl)) (by decide) (fun K hK => ?_)
             refine Kd.R_append_rows_step k27 (w0 := w) w.heap.size (by rfl) (.tmp 30) (.tmp 35) 30 27 (.agg #[(.int .i64 0), (.int .i64 0)]) 16 rfl Try.underlying30 info27 rfl (by decide) (by omega) vBQ yBP yBS _ _ _ (fun k_ => k_ ≠ gbBH) (fun _ => False) rfl rfl ?aO ?aR (fun _ _ h => h) (fun _ h => h.elim) ?aF ?aB ?aS ?aL ?_
             (case aR => exact Kd.C_up (Kd.C_below HRBV.out HB.out))
             (case aB => exact belS)
             (case aF => exact (fun k_ hk => Kd.freshB (g := gbBH) (o := .cells #[.int .i64 ((rd_T27 l0_3 x16_1).f0), .int .i64 ((rd_T27 l0_3 x16_1).f1)] 27 (0, 0)) (blk_up BKBH.out) k_ hk))
             (case aO => exact (Kd.R_up HOBR.out))
             (case aS => exact (below_size belS))
             (case aL => have := LMc21.out; omega)
             intro vBX w33 ho hb hg hat
             rw [← NyBW.out] at ho
             have n0_ := Aside0.mk (blk_grown (g := gbBD) (o := .cells #[.int .i64 a0_0, .int .i64 a0_1, .int .i64 a0_2, .slice (some adBG) l0_3.length c0_3] 32 (0, 0)) (blk_up BKBD.out) hg (Kd.R_ne HOBR.out BKBD.out (by decide)))
             have n1_ := Aside0.mk (blk_grown (g := gbBE) (o := .cells #[.int .i64 xBF000_1, .int .i64 xBF001_1, .int .i64 xBF002_1, .slice none 0 0] 32 (0, 0)) (blk_up BKBE.out) hg (Kd.R_ne HOBR.out BKBE.out (by decide)))
             have n2_ := Aside0.mk (blk_grown (g := gbBH) (o := .cells #[.int .i64 ((rd_T27 l0_3 x16_1).f0), .int .i64 ((rd_T27 l0_3 x16_1).f1)] 27 (0, 0)) (blk_up BKBH.out) hg (Kd.R_away HOBR.out (fun _ hk => hk)))
             have n3_ := Aside0.mk (hb)
             have n4_ := Aside0.mk (ho)
             clear BKBD
             clear BKBE
             clear BKBH
             clear HB
             clear HOBR
             have BKBD := n0_
             have BKBE := n1_
             have BKBH := n2_
             have HB := n3_
             have HOBY := n4_
             clear n0_ n1_ n2_ n3_ n4_
             clear ho hb hg hat
             refine hK.out _ _ ⟨(blk_cell BKBD.out 0).trans rfl, (blk_cell BKBD.out 1).trans rfl, (blk_cell BKBD.out 2).trans rfl, (blk_cell BKBD.out 3).trans rfl⟩ (fun hHeld => ?_)
             clear hK K
             refine norm_ (a' := ?_) ?_ ?_
             rotate_left
             ·show Act.put _ (some 36) _ = _
              simp only [Act.put, List.setIfInBounds_toArray, List.set_cons_zero, List.set_cons_succ, i64_w, i32_w]
              rfl
             refine pure_ (i := 12) (N := some 8) (v := ?_) (a' := ?_) #[true, true, true, true, true, true, true, true, true, true, true, true, true] rfl rfl (any_of HT_.out (by kernel_rfl)) (fun _ _ _ h => h) (Or.inl ⟨by rfl, ?_⟩) ?_ ?_
             rotate_left
             ·intro w'
              go_simp
              with_reducible rfl
             rotate_left
             ·simp only [Act.put, List.setIfInBounds_toArray, List.set_cons_zero, List.set_cons_succ, i64_w, i32_w]
              rfl
             refine done_ (done_of HT_.out (by kernel_rfl)) ?_
             have hnb34 := NBBD_BE.out
             have hnc34 := NBBE_BD.out
             obtain ⟨hcz35_0, hcz35_1, hcz35_2, hcz35_3, hfz35_0, hfz35_1, hfz35_2, hfz35_3⟩ := blk4 BKBD.out
             obtain ⟨Ao36, co36, eo36⟩ := Kd.R_slice HOBY.out
             subst eo36
             obtain ⟨hcz37_0, hcz37_1, hcz37_2, hcz37_3, hfz37_0, hfz37_1, hfz37_2, hfz37_3⟩ := blk4 BKBE.out
             try go_wp2
             refine bodyPost_ret (results_ct rfl _ _ gbBE 32 #[.int .i64 a0_0, .int .i64 a0_1, .int .i64 a0_2, .slice Ao36 yBW.length co36] (0, 0) _ rfl (by (with_reducible repeat (first | refine blk_drewN ?_ _ | refine blk_drew ?_ | refine blk_alloc ?_ _)); refine blk_put (cs := #[.int .i64 a0_0, .int .i64 a0_1, .int .i64 a0_2, .slice none 0 0]) ?_ 3 _ rfl; (with_reducible repeat (first | refine blk_drewN ?_ _ | refine blk_drew ?_ | refine blk_alloc ?_ _)); refine blk_put (cs := #[.int .i64 a0_0, .int .i64 a0_1, .int .i64 xBF002_1, .slice none 0 0]) ?_ 2 _ rfl; (with_reducible repeat (first | refine blk_drewN ?_ _ | refine blk_drew ?_ | refine blk_alloc ?_ _)); refine blk_put (cs := #[.int .i64 a0_0, .int .i64 xBF001_1, .int .i64 xBF002_1, .slice none 0 0]) ?_ 1 _ rfl; (with_reducible repeat (first | refine blk_drewN ?_ _ | refine blk_drew ?_ | refine blk_alloc ?_ _)); refine blk_put (cs := #[.int .i64 xBF000_1, .int .i64 xBF001_1, .int .i64 xBF002_1, .slice none 0 0]) ?_ 0 _ rfl; (with_reducible repeat (first | refine blk_drewN ?_ _ | refine blk_drew ?_ | refine blk_alloc ?_ _)); exact BKBE.out) Try.underlying32 rfl (by kernel_rfl)) rfl ?_
             exact ⟨_, by first | rfl | (simp [errW_none, errW_some] <;> rfl) | (simp only [← hji18]; first | rfl | (simp [errW_none, errW_some] <;> rfl)) | (simp [*, errW_none, errW_some] <;> rfl), by (with_reducible repeat (first | apply Kd.R_alloc | apply Kd.R_drewN | apply Kd.R_drew)); exact Kd.R_mono (Kd.R_far (p := ⟨gbBE, 3, none⟩) (Kd.R_far (p := ⟨gbBE, 2, none⟩) (Kd.R_far (p := ⟨gbBE, 1, none⟩) (Kd.R_far (p := ⟨gbBE, 0, none⟩) (Kd.R_types HOBY.out BKBE.out (by decide)) (fun _ hk => hk.2) (.int .i64 a0_0)) (fun _ hk => hk.2) (.int .i64 a0_1)) (fun _ hk => hk.2) (.int .i64 a0_2)) (fun _ hk => hk.2) (.slice Ao36 yBW.length co36)) (fun _ hk => trivial), by exact belS⟩
            ·rw [if_neg c21] at H
             exact absurd H (by simp)
           ·rw [if_neg c20] at H
            exact absurd H (by simp)
          ·rw [if_neg c19] at H
           exact absurd H (by simp)
         ·rw [if_neg c17] at H
          exact absurd H (by simp)
        ·rw [if_neg c16] at H
         exact absurd H (by simp)
       ·rw [if_neg c14] at H
        have c14b0 : (((rd_T27 l0_3 x16_1).f0) == a1) = false := beq_eq_false_iff_ne.mpr c14
        have c14b1 : (((rd_T27 l0_3 x16_1).f0) != a1) = true := bne_iff_ne.mpr c14
        have H' := Aside0.mk H
        clear H
        have pBG : 0 ≤ (x16_1 : Int) := of_decide_eq_true (by first | (with_reducible assumption) | assumption)
        have qBG : x16_1 < (l0_3.length : Int) := of_decide_eq_true (by first | (with_reducible assumption) | assumption)
        obtain ⟨adBG, eBG, hxBG_0, hxBG_1⟩ := at_T27 HR0_3.out x16_1 pBG qBG
        cases eBG
        first | (replace hxBG_0 := (HB.out.cell (World.block_lt_of_cell? w _ hxBG_0)).trans hxBG_0) | skip
        first | (replace hxBG_1 := (HB.out.cell (World.block_lt_of_cell? w _ hxBG_1)).trans hxBG_1) | skip
        replace pBG := eq_true pBG
        replace qBG := eq_true qBG
        go_wp2_with (first | ((with_reducible refine gate_dst (N := 7) rfl ?_); refine box_event ?hg (N := 7) ?hd (cs := #[.int .i64 0, .int .i64 0]) (t := 27) ?hr ?_; (case hd => rfl); (case hg => rfl); (case hr => first | (go_simp; done) | (go_simp; rfl)); intro gbBH hg w38 hbox hb; have n0_ := Aside0.mk (blk_below (blk_up BKBD.out) hb); have n1_ := Aside0.mk (blk_below (blk_up BKBE.out) hb); have n2_ := Aside0.mk (below_step belS hb); have n3_ := Aside0.mk (hbox); have n4_ := Aside0.mk ((by rw [hg]; exact (below_size belS) : w.heap.size ≤ gbBH)); have n5_ := n4_; have n6_ := Aside0.mk ((by rw [hg]; exact Nat.ne_of_lt (blk_lt (blk_up BKBD.out)) : gbBD ≠ gbBH)); have n7_ := Aside0.mk ((by rw [hg]; exact Nat.ne_of_gt (blk_lt (blk_up BKBD.out)) : gbBH ≠ gbBD)); have n8_ := Aside0.mk ((by rw [hg]; exact Nat.ne_of_lt (blk_lt (blk_up BKBE.out)) : gbBE ≠ gbBH)); have n9_ := Aside0.mk ((by rw [hg]; exact Nat.ne_of_gt (blk_lt (blk_up BKBE.out)) : gbBH ≠ gbBE)); clear BKBD; clear BKBE; clear HB; have BKBD := n0_; have BKBE := n1_; have HB := n2_; have BKBH := n3_; have GWBH := n4_; have GEBH := n5_; have NBBD_BH := n6_; have NBBH_BD := n7_; have NBBE_BH := n8_; have NBBH_BE := n9_; clear n0_ n1_ n2_ n3_ n4_ n5_ n6_ n7_ n8_ n9_; clear hb hbox hg; have hnb39 := NBBH_BD.out; have hnc39 := NBBD_BH.out; have hnb40 := NBBH_BE.out; have hnc40 := NBBE_BH.out; obtain ⟨hcz41_0, hcz41_1, hfz41_0, hfz41_1⟩ := blk2 BKBH.out))
        go_roundg k1
        case measure => have := HK1.out; omega
        case rel => exact ⟨(wrap64 (x16_1 + 1)), (xBF000_1), (xBF001_1), (xBF002_1), (by first | rfl | (simp; done) | (simp [*]; done)), H', ⟨by have := HK1.out; omega⟩, ⟨by (with_reducible repeat (first | refine blk_drewN ?_ _ | refine blk_drew ?_ | refine blk_alloc ?_ _)); refine blk_far ?_ NBBD_BH.out _; (with_reducible repeat (first | refine blk_drewN ?_ _ | refine blk_drew ?_ | refine blk_alloc ?_ _)); refine blk_far ?_ NBBD_BH.out _; (with_reducible repeat (first | refine blk_drewN ?_ _ | refine blk_drew ?_ | refine blk_alloc ?_ _)); exact BKBD.out⟩, ⟨by (with_reducible repeat (first | refine blk_drewN ?_ _ | refine blk_drew ?_ | refine blk_alloc ?_ _)); refine blk_far ?_ NBBE_BH.out _; (with_reducible repeat (first | refine blk_drewN ?_ _ | refine blk_drew ?_ | refine blk_alloc ?_ _)); refine blk_far ?_ NBBE_BH.out _; (with_reducible repeat (first | refine blk_drewN ?_ _ | refine blk_drew ?_ | refine blk_alloc ?_ _)); exact BKBE.out⟩, ⟨by exact belS⟩⟩
      ·rw [if_neg c13] at H
       exact absurd H (by simp)
     ·rw [if_neg c12] at H
      exact absurd H (by simp)
    ·rw [if_neg c11] at H
     have c11b0 : decide (x16_1 < (l0_3.length : Int)) = false := decide_eq_false c11
     clear c11
     simp only [Option.some.injEq, Prod.mk.injEq] at H
     obtain ⟨rfl, rfl, rfl, rfl, rfl⟩ := H
     have hnb42 := NBBE_BD.out
     have hnc42 := NBBD_BE.out
     obtain ⟨hcz43_0, hcz43_1, hcz43_2, hcz43_3, hfz43_0, hfz43_1, hfz43_2, hfz43_3⟩ := blk4 BKBE.out
     go_wp2
     refine bodyPost_ret (results_ct rfl _ _ gbBE 32 #[.int .i64 0, .int .i64 0, .int .i64 0, .slice none 0 0] (0, 0) _ rfl (by (with_reducible repeat (first | refine blk_drewN ?_ _ | refine blk_drew ?_ | refine blk_alloc ?_ _)); refine blk_put (cs := #[.int .i64 0, .int .i64 0, .int .i64 0, .slice none 0 0]) ?_ 3 _ rfl; (with_reducible repeat (first | refine blk_drewN ?_ _ | refine blk_drew ?_ | refine blk_alloc ?_ _)); refine blk_put (cs := #[.int .i64 0, .int .i64 0, .int .i64 xBF002_1, .slice none 0 0]) ?_ 2 _ rfl; (with_reducible repeat (first | refine blk_drewN ?_ _ | refine blk_drew ?_ | refine blk_alloc ?_ _)); refine blk_put (cs := #[.int .i64 0, .int .i64 xBF001_1, .int .i64 xBF002_1, .slice none 0 0]) ?_ 1 _ rfl; (with_reducible repeat (first | refine blk_drewN ?_ _ | refine blk_drew ?_ | refine blk_alloc ?_ _)); refine blk_put (cs := #[.int .i64 xBF000_1, .int .i64 xBF001_1, .int .i64 xBF002_1, .slice none 0 0]) ?_ 0 _ rfl; (with_reducible repeat (first | refine blk_drewN ?_ _ | refine blk_drew ?_ | refine blk_alloc ?_ _)); exact BKBE.out) Try.underlying32 rfl (by kernel_rfl)) rfl ?_
     exact ⟨_, by first | rfl | (simp [errW_none, errW_some] <;> rfl) | (simp [*, errW_none, errW_some] <;> rfl), by first | exact Kd.R_nil _ _ _ _ _ | exact Kd.N_nil _ _ _ _ _ | exact Kd.V_nil _ _ _ _ _ | exact Kd.Q_nil _ _ _ _ _ | exact Kd.S_nil _ _ _ _ _, by exact belS⟩
 ·replace c4 := Bool.eq_false_iff.mpr c4
  subst c4
  have H1 : (some (0, 0, 0, ([] : List (S27)), false)) = some (r1, r2, r3, r4, r5) := by rw [if_neg (show ¬ (false = true) by decide)] at H; exact H
  clear H
  have H := H1
  clear H1
  simp only [Option.some.injEq, Prod.mk.injEq] at H
  obtain ⟨rfl, rfl, rfl, rfl, rfl⟩ := H
  go_enter Try.func112, Try.ntmps112
  go_wp2_with (first | ((with_reducible refine gate_dst (N := 2) rfl ?_); refine box_event ?hg (N := 2) ?hd (cs := #[.int .i64 a0_0, .int .i64 a0_1, .int .i64 a0_2, .slice A0_3 l0_3.length c0_3]) (t := 32) ?hr ?_; (case hd => rfl); (case hg => rfl); (case hr => first | (go_simp; done) | (go_simp; rfl)); intro gbBD hg w44 hbox hb; have n0_ := Aside0.mk (below_step belS hb); have n1_ := Aside0.mk (hbox); have n2_ := Aside0.mk ((by rw [hg]; exact (below_size belS) : w.heap.size ≤ gbBD)); have n3_ := n2_; clear HB; have HB := n0_; have BKBD := n1_; have GWBD := n2_; have GEBD := n3_; clear n0_ n1_ n2_ n3_; clear hb hbox hg) | ((with_reducible refine gate_dst (N := 4) rfl ?_); refine box_event ?hg (N := 4) ?hd (cs := #[.int .i64 0, .int .i64 0, .int .i64 0, .slice none 0 0]) (t := 32) ?hr ?_; (case hd => rfl); (case hg => rfl); (case hr => first | (go_simp; done) | (go_simp; rfl)); intro gbBE hg w45 hbox hb; have n0_ := Aside0.mk (blk_below (blk_up BKBD.out) hb); have n1_ := Aside0.mk (below_step belS hb); have n2_ := Aside0.mk (hbox); have n3_ := Aside0.mk ((by rw [hg]; exact (below_size belS) : w.heap.size ≤ gbBE)); have n4_ := n3_; have n5_ := Aside0.mk ((by rw [hg]; exact Nat.ne_of_lt (blk_lt (blk_up BKBD.out)) : gbBD ≠ gbBE)); have n6_ := Aside0.mk ((by rw [hg]; exact Nat.ne_of_gt (blk_lt (blk_up BKBD.out)) : gbBE ≠ gbBD)); clear BKBD; clear HB; have BKBD := n0_; have HB := n1_; have BKBE := n2_; have GWBE := n3_; have GEBE := n4_; have NBBD_BE := n5_; have NBBE_BD := n6_; clear n0_ n1_ n2_ n3_ n4_ n5_ n6_; clear hb hbox hg; have hnb46 := NBBD_BE.out; have hnc46 := NBBE_BD.out; obtain ⟨hcz47_0, hcz47_1, hcz47_2, hcz47_3, hfz47_0, hfz47_1, hfz47_2, hfz47_3⟩ := blk4 BKBD.out) | ((with_reducible refine gate_callee (f := 125) rfl ?_); refine goesL_ (some 10) rfl rfl Try.func125 (by kernel_rfl) rfl #[.agg #[.int .i64 a0_0, .int .i64 a0_1, .int .i64 a0_2, .slice A0_3 l0_3.length c0_3]] rfl argS ?_; (with_reducible refine (spec_sqGood.calls k a0_0 a0_1 a0_2 _ _ l0_3 false _ ?side1 ?side2 A3.out).mono ?_); (case side1 => exact Kd.C_up (Kd.C_below HR0_3.out HB.out)); (case side2 => exact HC0_3.out); rintro e w48 ⟨rfl, hb⟩; refine ⟨_, rfl, ?_⟩; have n0_ := Aside0.mk (blk_below (blk_up BKBD.out) hb); have n1_ := Aside0.mk (blk_below (blk_up BKBE.out) hb); have n2_ := Aside0.mk (below_step belS hb); clear BKBD; clear BKBE; clear HB; have BKBD := n0_; have BKBE := n1_; have HB := n2_; clear n0_ n1_ n2_; (try clear hb); (try clear hb2); (try clear hk); (try clear hi); obtain ⟨hcz49_0, hcz49_1, hcz49_2, hcz49_3, hfz49_0, hfz49_1, hfz49_2, hfz49_3⟩ := blk4 BKBE.out))
  refine bodyPost_ret (results_ct rfl _ _ gbBE 32 #[.int .i64 0, .int .i64 0, .int .i64 0, .slice none 0 0] (0, 0) _ rfl (by (with_reducible repeat (first | refine blk_drewN ?_ _ | refine blk_drew ?_ | refine blk_alloc ?_ _)); refine blk_put (cs := #[.int .i64 0, .int .i64 0, .int .i64 0, .slice none 0 0]) ?_ 3 _ rfl; (with_reducible repeat (first | refine blk_drewN ?_ _ | refine blk_drew ?_ | refine blk_alloc ?_ _)); refine blk_put (cs := #[.int .i64 0, .int .i64 0, .int .i64 0, .slice none 0 0]) ?_ 2 _ rfl; (with_reducible repeat (first | refine blk_drewN ?_ _ | refine blk_drew ?_ | refine blk_alloc ?_ _)); refine blk_put (cs := #[.int .i64 0, .int .i64 0, .int .i64 0, .slice none 0 0]) ?_ 1 _ rfl; (with_reducible repeat (first | refine blk_drewN ?_ _ | refine blk_drew ?_ | refine blk_alloc ?_ _)); refine blk_put (cs := #[.int .i64 0, .int .i64 0, .int .i64 0, .slice none 0 0]) ?_ 0 _ rfl; (with_reducible repeat (first | refine blk_drewN ?_ _ | refine blk_drew ?_ | refine blk_alloc ?_ _)); exact BKBE.out) Try.underlying32 rfl (by kernel_rfl)) rfl ?_
  exact ⟨_, by first | rfl | (simp [errW_none, errW_some] <;> rfl) | (simp [*, errW_none, errW_some] <;> rfl), by first | exact Kd.R_nil _ _ _ _ _ | exact Kd.N_nil _ _ _ _ _ | exact Kd.V_nil _ _ _ _ _ | exact Kd.Q_nil _ _ _ _ _ | exact Kd.S_nil _ _ _ _ _, by exact belS⟩

end Go.Proofs.Ytkobjjadojpjfaa.Pr
