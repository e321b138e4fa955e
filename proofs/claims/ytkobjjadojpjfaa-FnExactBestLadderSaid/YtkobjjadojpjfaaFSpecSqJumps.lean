-- A text of the machine side, written by wip/gen.py of this repo out of the translation. Not trusted: Lean checks it.
import Derived.Test.YtkobjjadojpjfaaF0
namespace Go.Proofs.Ytkobjjadojpjfaa.Pr
open Go.RowKit Go.Proofs.YtkobjjadojpjfaaW.PrintWords Go.Proofs.YtkobjjadojpjfaaW.PrintLast Go.Proofs.YtkobjjadojpjfaaW.PrintMore
attribute [local go_sem] max2_int min2_int max_two min_two max_three min_three max_four min_four   -- for this text's walks alone
set_option linter.unusedVariables false
set_option linter.unusedSimpArgs false

/-! ### spec_sqJumps: function 139 -/
def spec_sqJumps.l0 : Nat → Bool → List (S27) → List (S27) → Int → Int → Option ((List (S27)))
 | 0, _, _, _, _, _ => none
 | k + 1, x1, x5, x9, x10, x11 => if x11 < x10 then (if 0 ≤ x11 then (if x11 < (x9.length : Int) then (if ((decide (((rd_T27 x9 x11).f1) > ((rd_T27 x9 x11).f0))) == x1) = true then (if x5.length < 8796093022208 then (spec_sqJumps.l0 k x1 (x5 ++ [(⟨(rd_T27 x9 x11).f0, (rd_T27 x9 x11).f1⟩ : S27)]) x9 x10 (wrap64 (x11 + 1))) else (none)) else (spec_sqJumps.l0 k x1 x5 x9 x10 (wrap64 (x11 + 1)))) else (none)) else (none)) else (some x5)
def spec_sqJumps.f (k : Nat) (a0_0 : Int) (a0_1 : Int) (a0_2 : Int) (l0_3 : List (S27)) (a1 : Bool) : Option ((List (S27))) := spec_sqJumps.l0 k a1 ([] : List (S27)) l0_3 (l0_3.length : Int) 0
set_option maxHeartbeats 8000000 in
set_option maxRecDepth 100000 in
theorem spec_sqJumps.calls (k : Nat) (a0_0 : Int) (a0_1 : Int) (a0_2 : Int) (A0_3 : Option Addr) (c0_3 : Nat) (l0_3 : List (S27)) (a1 : Bool) (r : List (S27)) (w : World) (hr0_3 : Kd.C k27 w A0_3 l0_3.length l0_3) (hc0_3 : l0_3.length ≤ c0_3) (h : spec_sqJumps.f k a0_0 a0_1 a0_2 l0_3 a1 = some r) :
  Calls Try.prog 139 #[.agg #[.int .i64 a0_0, .int .i64 a0_1, .int .i64 a0_2, .slice A0_3 l0_3.length c0_3], .bool a1] w fun e w' => ∃ v0_ : Value, e = .returned (v0_) ∧ Kd.R k27 27 w' w.heap.size (fun _ => True) v0_ r ∧ Below w.heap.size w w' := by
 have hu32 := Try.underlying32
 have hu27 := Try.underlying27
 have HR0_3 := Am hr0_3
 have HC0_3 := Am hc0_3
 clear hr0_3 hc0_3
 have HB := Am (Below.refl w.heap.size w)
 have H : (spec_sqJumps.l0 k a1 ([] : List (S27)) l0_3 (l0_3.length : Int) 0) = some r := h
 clear h
 have H' := Am H
 clear H
 go_enter Try.func139, Try.ntmps139
 go_wp2_with (first | ((with_reducible refine gate_dst (N := 2) rfl ?_); refine box_event (by rfl) (N := 2) (by rfl) (cs := #[.int .i64 a0_0, .int .i64 a0_1, .int .i64 a0_2, .slice A0_3 l0_3.length c0_3]) (t := 32) hrS ?_; intro gbBD hg w3 hbox hb; have n0_ := Am (below_step belS hb); have n1_ := Am (hbox); have n2_ := Am (geS hg : w.heap.size ≤ gbBD); have n3_ := n2_; clear HB; revert n0_ n1_ n2_ n3_; intro HB BKBD GWBD GEBD; clear hb hbox hg; obtain ⟨hcz4_0, hcz4_1, hcz4_2, hcz4_3, hfz4_0, hfz4_1, hfz4_2, hfz4_3⟩ := blk4 BKBD.out))
 go_loopg [5, 11] k (fun kq v5 v11 w' => ∃ (x5_1 : List (S27)) (x11_1 : Int), v11 = .int .i64 x11_1 ∧ Aside0 (spec_sqJumps.l0 kq a1 x5_1 l0_3 (l0_3.length : Int) x11_1 = some r) ∧ Aside0 (kq ≤ k) ∧ Aside0 (Kd.R k27 27 w' w.heap.size (fun _ => True) v5 x5_1) ∧ Aside0 (w'.heap[gbBD]? = some (.cells #[.int .i64 a0_0, .int .i64 a0_1, .int .i64 a0_2, (.slice A0_3 l0_3.length c0_3)] 32 (0, 0))) ∧ Aside0 (Below w.heap.size w w'))
 case atStart => exact ⟨(([] : List (S27))), (0), rfS, H', ⟨Nat.le_refl _⟩, ⟨by first | exact Kd.R_nil _ _ _ _ _ | exact Kd.N_nil _ _ _ _ _ | exact Kd.V_nil _ _ _ _ _ | exact Kd.Q_nil _ _ _ _ _ | exact Kd.S_nil _ _ _ _ _⟩, ⟨by first | exact blk_up BKBD.out | exact BKBD.out⟩, ⟨by exact belS⟩⟩
 case round =>
  clear H'
  try clear hcz4_0 hcz4_1 hcz4_2 hcz4_3
  try clear hfz4_0 hfz4_1 hfz4_2 hfz4_3
  obtain ⟨x5_1, x11_1, rfl, HA, HK1, HO_5, BKBD, HB⟩ := hrel
  cases gk with
  | zero => exact absurd HA.out (by simp [spec_sqJumps.l0])
  | succ k1 =>
   have H := HA.out
   clear HA
   simp only [spec_sqJumps.l0] at H
   by_cases c5 : x11_1 < (l0_3.length : Int)
   ·rw [if_pos c5] at H
    have c5b0 : decide (x11_1 < (l0_3.length : Int)) = true := decide_eq_true c5
    clear c5
    by_cases c6 : 0 ≤ x11_1
    ·rw [if_pos c6] at H
     have c6b0 : decide (0 ≤ x11_1) = true := decide_eq_true c6
     clear c6
     by_cases c7 : x11_1 < (l0_3.length : Int)
     ·rw [if_pos c7] at H
      have c7b0 : decide (x11_1 < (l0_3.length : Int)) = true := decide_eq_true c7
      clear c7
      by_cases c8 : ((decide (((rd_T27 l0_3 x11_1).f1) > ((rd_T27 l0_3 x11_1).f0))) == a1) = true
      ·rw [if_pos c8] at H
       have c8b0 : ((decide (((rd_T27 l0_3 x11_1).f1) > ((rd_T27 l0_3 x11_1).f0))) == a1) = true := c8
       (try (have c8b1 : decide ((decide (((rd_T27 l0_3 x11_1).f1) > ((rd_T27 l0_3 x11_1).f0))) = a1) = true := by simpa using c8))
       (try (have c8b2 : ((decide (((rd_T27 l0_3 x11_1).f1) > ((rd_T27 l0_3 x11_1).f0))) == a1) = true := by simpa using c8))
       clear c8
       by_cases c9 : x5_1.length < 8796093022208
       ·rw [if_pos c9] at H
        have LMc9 := Am c9
        clear c9
        obtain ⟨yBG, hyBG⟩ : ∃ y_ : List (S27), y_ = (x5_1 ++ [(⟨(rd_T27 l0_3 x11_1).f0, (rd_T27 l0_3 x11_1).f1⟩ : S27)]) := ⟨_, rfl⟩
        replace H : (spec_sqJumps.l0 k1 a1 yBG l0_3 (l0_3.length : Int) (wrap64 (x11_1 + 1))) = some r := by first | (rw [hyBG]; with_reducible exact H) | (have H2_ := (Option.bind_some _ _).symm.trans H; rw [hyBG]; with_reducible exact H2_) | (have H2_ := (Option.bind_some _ _).symm.trans H; with_reducible exact H2_) | with_reducible exact H | (rw [hyBG]; exact H) | exact H
        have NyBG := Am hyBG
        clear hyBG
        have H' := Am H
        clear H
        have pBE : 0 ≤ (x11_1 : Int) := ofd
        have qBE : x11_1 < (l0_3.length : Int) := ofd
        obtain ⟨adBE, eBE, hxBE_0, hxBE_1⟩ := at_T27 HR0_3.out x11_1 pBE qBE
        cases eBE
        first | (replace hxBE_0 := (HB.out.cell (World.block_lt_of_cell? w _ hxBE_0)).trans hxBE_0) | skip
        first | (replace hxBE_1 := (HB.out.cell (World.block_lt_of_cell? w _ hxBE_1)).trans hxBE_1) | skip
        replace pBE := eq_true pBE
        replace qBE := eq_true qBE
        go_wp2_with (first | ((with_reducible refine gate_dst (N := 7) rfl ?_); refine box_event (by rfl) (N := 7) (by rfl) (cs := #[.int .i64 0, .int .i64 0]) (t := 27) hrS ?_; intro gbBF hg w10 hbox hb; have n0_ := Am (Kd.R_below (Kd.R_elderB (Kd.R_up HO_5.out) gbBF (Nat.le_of_eq hg.symm)) hb); have n1_ := Am (blk_below (blk_up BKBD.out) hb); have n2_ := Am (below_step belS hb); have n3_ := Am (hbox); have n4_ := Am (geS hg : w.heap.size ≤ gbBF); have n5_ := n4_; have n6_ := Am ((by rw [hg]; exact Nat.ne_of_lt (blk_lt (blk_up BKBD.out)) : gbBD ≠ gbBF)); have n7_ := Am ((by rw [hg]; exact Nat.ne_of_gt (blk_lt (blk_up BKBD.out)) : gbBF ≠ gbBD)); clear HO_5 BKBD HB; revert n0_ n1_ n2_ n3_ n4_ n5_ n6_ n7_; intro HO_5 BKBD HB BKBF GWBF GEBF NBBD_BF NBBF_BD; clear hb hbox hg; have hnb11 := NBBF_BD.out; have hnc11 := NBBD_BF.out; obtain ⟨hcz12_0, hcz12_1, hfz12_0, hfz12_1⟩ := blk2 BKBF.out) | ((with_reducible refine gate_builtin (b := .append) (xs := #[.tmp 22, .tmp 24]) rfl ?_); at_builtin; refine Kd.R_append k27 (w0 := w) w.heap.size rfl (.tmp 22) (.tmp 24) 30 27 (.agg #[(.int .i64 0), (.int .i64 0)]) 16 rfl Try.underlying30 info27 rfl (by decide) (by omega) u5 x5_1 (⟨(rd_T27 l0_3 x11_1).f0, (rd_T27 l0_3 x11_1).f1⟩ : S27) [.int .i64 ((rd_T27 l0_3 x11_1).f0), .int .i64 ((rd_T27 l0_3 x11_1).f1)] (fun k_ => k_ ≠ gbBF) (fun _ => False) rfl (by first | (go_simp; done) | (go_simp; rfl)) ?aP (fun _ hk => hk.elim) ?aF ?aO ?aB ?aS ?aL ?_; (case aP => exact k27_mkM _ _ _ (⟨(rd_T27 l0_3 x11_1).f0, (rd_T27 l0_3 x11_1).f1⟩ : S27)); (case aB => exact belS); (case aF => exact (fun k_ hk => Kd.freshB (g := gbBF) (o := .cells #[.int .i64 ((rd_T27 l0_3 x11_1).f0), .int .i64 ((rd_T27 l0_3 x11_1).f1)] 27 (0, 0)) (by (with_reducible repeat (first | refine blk_drewN ?_ _ | refine blk_drew ?_ | refine blk_alloc ?_ _)); refine blk_put (cs := #[.int .i64 ((rd_T27 l0_3 x11_1).f0), .int .i64 0]) ?_ 1 _ rfl; refine blk_putU (cs := #[.int .i64 0, .int .i64 0]) ?_ 0 _ rfl; exact BKBF.out) k_ hk)); (case aO => exact (by (with_reducible repeat (first | apply Kd.R_alloc | apply Kd.R_drewN | apply Kd.R_drew)); exact Kd.R_mono (Kd.R_far (p := ⟨gbBF, 1, none⟩) (Kd.R_far (p := ⟨gbBF, 0, none⟩) (Kd.R_mono HO_5.out (fun k_ hk => (⟨hk, hk.2⟩ : _ ∧ k_ ≠ gbBF))) (fun _ hk => hk.2) (.int .i64 ((rd_T27 l0_3 x11_1).f0))) (fun _ hk => hk.2) (.int .i64 ((rd_T27 l0_3 x11_1).f1))) (fun _ hk => hk.1.2))); (case aS => exact (below_size belS)); (case aL => have := LMc9.out; omega); intro vBH w13 ho hb hg hat; rw [← NyBG.out] at ho; have n0_ := Am (blk_grown (g := gbBD) (o := .cells #[.int .i64 a0_0, .int .i64 a0_1, .int .i64 a0_2, .slice (some adBE) l0_3.length c0_3] 32 (0, 0)) (by (with_reducible repeat (first | refine blk_drewN ?_ _ | refine blk_drew ?_ | refine blk_alloc ?_ _)); refine blk_farU ?_ NBBD_BF.out _; refine blk_farU ?_ NBBD_BF.out _; exact BKBD.out) hg (Kd.R_ne HO_5.out BKBD.out (by decide))); have n1_ := Am (blk_grown (g := gbBF) (o := .cells #[.int .i64 ((rd_T27 l0_3 x11_1).f0), .int .i64 ((rd_T27 l0_3 x11_1).f1)] 27 (0, 0)) (by (with_reducible repeat (first | refine blk_drewN ?_ _ | refine blk_drew ?_ | refine blk_alloc ?_ _)); refine blk_put (cs := #[.int .i64 ((rd_T27 l0_3 x11_1).f0), .int .i64 0]) ?_ 1 _ rfl; refine blk_putU (cs := #[.int .i64 0, .int .i64 0]) ?_ 0 _ rfl; exact BKBF.out) hg (Kd.R_away HO_5.out (fun _ hk => hk.2))); have n2_ := Am (hb); have n3_ := Am (ho); clear BKBD BKBF HB HO_5; revert n0_ n1_ n2_ n3_; intro BKBD BKBF HB HOBI; clear ho hb hg hat))
        go_roundg k1
        case measure => have := HK1.out; omega
        case rel => exact ⟨(yBG), (wrap64 (x11_1 + 1)), rfS, H', ⟨by have := HK1.out; omega⟩, ⟨by (with_reducible repeat (first | apply Kd.R_alloc | apply Kd.R_drewN | apply Kd.R_drew)); exact Kd.R_mono HOBI.out (fun _ hk => trivial)⟩, ⟨by first | exact blk_up BKBD.out | exact BKBD.out⟩, ⟨by exact belS⟩⟩
       ·rw [if_neg c9] at H
        exact absurd H (by simp)
      ·rw [if_neg c8] at H
       have c8b0 : ((decide (((rd_T27 l0_3 x11_1).f1) > ((rd_T27 l0_3 x11_1).f0))) == a1) = false := by simpa using c8
       (try (have c8b1 : decide ((decide (((rd_T27 l0_3 x11_1).f1) > ((rd_T27 l0_3 x11_1).f0))) = a1) = false := by simpa using c8))
       (try (have c8b2 : ((decide (((rd_T27 l0_3 x11_1).f1) > ((rd_T27 l0_3 x11_1).f0))) == a1) = false := by simpa using c8))
       (try (have c8b3 : ¬ ((decide (((rd_T27 l0_3 x11_1).f1) > ((rd_T27 l0_3 x11_1).f0))) = a1) := by simpa using c8))
       clear c8
       have H' := Am H
       clear H
       have pBE : 0 ≤ (x11_1 : Int) := ofd
       have qBE : x11_1 < (l0_3.length : Int) := ofd
       obtain ⟨adBE, eBE, hxBE_0, hxBE_1⟩ := at_T27 HR0_3.out x11_1 pBE qBE
       cases eBE
       first | (replace hxBE_0 := (HB.out.cell (World.block_lt_of_cell? w _ hxBE_0)).trans hxBE_0) | skip
       first | (replace hxBE_1 := (HB.out.cell (World.block_lt_of_cell? w _ hxBE_1)).trans hxBE_1) | skip
       replace pBE := eq_true pBE
       replace qBE := eq_true qBE
       go_wp2_with (first | ((with_reducible refine gate_dst (N := 7) rfl ?_); refine box_event (by rfl) (N := 7) (by rfl) (cs := #[.int .i64 0, .int .i64 0]) (t := 27) hrS ?_; intro gbBF hg w14 hbox hb; have n0_ := Am (Kd.R_below (Kd.R_elderB (Kd.R_up HO_5.out) gbBF (Nat.le_of_eq hg.symm)) hb); have n1_ := Am (blk_below (blk_up BKBD.out) hb); have n2_ := Am (below_step belS hb); have n3_ := Am (hbox); have n4_ := Am (geS hg : w.heap.size ≤ gbBF); have n5_ := n4_; have n6_ := Am ((by rw [hg]; exact Nat.ne_of_lt (blk_lt (blk_up BKBD.out)) : gbBD ≠ gbBF)); have n7_ := Am ((by rw [hg]; exact Nat.ne_of_gt (blk_lt (blk_up BKBD.out)) : gbBF ≠ gbBD)); clear HO_5 BKBD HB; revert n0_ n1_ n2_ n3_ n4_ n5_ n6_ n7_; intro HO_5 BKBD HB BKBF GWBF GEBF NBBD_BF NBBF_BD; clear hb hbox hg; have hnb15 := NBBF_BD.out; have hnc15 := NBBD_BF.out; obtain ⟨hcz16_0, hcz16_1, hfz16_0, hfz16_1⟩ := blk2 BKBF.out))
       go_roundg k1
       case measure => have := HK1.out; omega
       case rel => exact ⟨(x5_1), (wrap64 (x11_1 + 1)), rfS, H', ⟨by have := HK1.out; omega⟩, ⟨by (with_reducible repeat (first | apply Kd.R_alloc | apply Kd.R_drewN | apply Kd.R_drew)); exact Kd.R_mono (Kd.R_far (p := ⟨gbBF, 1, none⟩) (Kd.R_far (p := ⟨gbBF, 0, none⟩) (Kd.R_mono HO_5.out (fun k_ hk => (⟨hk, hk.2⟩ : _ ∧ k_ ≠ gbBF))) (fun _ hk => hk.2) (.int .i64 ((rd_T27 l0_3 x11_1).f0))) (fun _ hk => hk.2) (.int .i64 ((rd_T27 l0_3 x11_1).f1))) (fun _ hk => trivial)⟩, ⟨by (with_reducible repeat (first | refine blk_drewN ?_ _ | refine blk_drew ?_ | refine blk_alloc ?_ _)); refine blk_farU ?_ NBBD_BF.out _; refine blk_farU ?_ NBBD_BF.out _; exact BKBD.out⟩, ⟨by exact belS⟩⟩
     ·rw [if_neg c7] at H
      exact absurd H (by simp)
    ·rw [if_neg c6] at H
     exact absurd H (by simp)
   ·rw [if_neg c5] at H
    have c5b0 : decide (x11_1 < (l0_3.length : Int)) = false := decide_eq_false c5
    clear c5
    obtain rfl := Option.some.inj H
    go_wp2
    go_ret
    exact ⟨_, rfE, by (with_reducible repeat (first | apply Kd.R_alloc | apply Kd.R_drewN | apply Kd.R_drew)); exact HO_5.out, by exact belS⟩

end Go.Proofs.Ytkobjjadojpjfaa.Pr
