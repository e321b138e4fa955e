-- A text of the machine side, written by wip/gen.py of this repo out of the translation. Not trusted: Lean checks it.
import Derived.Test.YtkobjjadojpjfaaF0
import Derived.Test.YtkobjjadojpjfaaFGB
import Derived.Test.YtkobjjadojpjfaaFImplBoardAdded
import Derived.Test.YtkobjjadojpjfaaFImplJump192
import Derived.Test.YtkobjjadojpjfaaHLand
namespace Go.Proofs.Ytkobjjadojpjfaa.Pr
open Go.RowKit Go.Proofs.YtkobjjadojpjfaaW.PrintWords Go.Proofs.YtkobjjadojpjfaaW.PrintLast Go.Proofs.YtkobjjadojpjfaaW.PrintMore
attribute [local go_sem] max2_int min2_int max_two min_two max_three min_three max_four min_four   -- for this text's walks alone
set_option linter.unusedVariables false
set_option linter.unusedSimpArgs false

abbrev bImplBoardLadders_0 : Array Bool := #[true, true, true, true, true, true, true, true, true, false, false, false]
abbrev bImplBoardLadders_1 : Array Bool := #[true, true, true, true, false, false, true, true, true, false, false, false]
abbrev bImplBoardLadders_2 : Array Bool := #[true, true, true, true, true, false, true, true, true, false, false, false]
/-! ### impl_Board_ladders: function 129 -/
mutual
def impl_Board_ladders.l0 : Nat → List (S32) → List (S27) → Int → Int → Int → List (S27) → Int → Option ((List (S32)) × (List (S27)))
 | 0, _, _, _, _, _, _, _ => none
 | k + 1, x4, x5, xBE000, xBE001, xBE002, xBE003, xBL000 => if xBL000 < xBE000 then ((impl_Board_isSquare.f k xBE000 xBE001 xBE002 xBE003 xBL000).bind fun tBL => (if tBL = true then ((impl_Jump_192.f k xBE003 (landV xBL000)).bind fun tBM => (impl_Board_ladders.j1 k x4 x5 tBM xBE000 xBE001 xBE002 xBE003 xBL000)) else (impl_Board_ladders.j1 k x4 x5 true xBE000 xBE001 xBE002 xBE003 xBL000))) else (some (x4, x5))
def impl_Board_ladders.j1 : Nat → List (S32) → List (S27) → Bool → Int → Int → Int → List (S27) → Int → Option ((List (S32)) × (List (S27)))
 | 0, _, _, _, _, _, _, _, _ => none
 | k + 1, x4, x5, x32, xBE000, xBE001, xBE002, xBE003, xBL000 => if x32 = true then (impl_Board_ladders.l0 k x4 x5 xBE000 xBE001 xBE002 xBE003 (wrap64 (xBL000 + 1))) else (impl_Board_ladders.l1 k x4 x5 (wrap64 (xBL000 + 1)) xBE000 xBE001 xBE002 xBE003 xBL000)
def impl_Board_ladders.l1 : Nat → List (S32) → List (S27) → Int → Int → Int → Int → List (S27) → Int → Option ((List (S32)) × (List (S27)))
 | 0, _, _, _, _, _, _, _, _ => none
 | k + 1, x4, x5, x7, xBE000, xBE001, xBE002, xBE003, xBL000 => if x7 ≤ xBE000 then ((impl_Board_isSquare.f k xBE000 xBE001 xBE002 xBE003 x7).bind fun tBN => (if tBN = true then ((impl_Board_added.f k xBE000 xBE001 xBE002 xBE003 xBL000 x7).bind fun btBP => ((some (([(⟨btBP.1, btBP.2.1, btBP.2.2.1, btBP.2.2.2⟩ : S32)] : List (S32)) : List (S32))).bind fun yBV => (if x4.length + yBV.length < 2932031007402 then ((some (([(⟨xBL000, x7⟩ : S27)] : List (S27)) : List (S27))).bind fun yC1 => (if x5.length + yC1.length < 8796093022208 then (impl_Board_ladders.l1 k (x4 ++ yBV) (x5 ++ yC1) (wrap64 (x7 + 1)) xBE000 xBE001 xBE002 xBE003 xBL000) else (none))) else (none)))) else (impl_Board_ladders.l1 k x4 x5 (wrap64 (x7 + 1)) xBE000 xBE001 xBE002 xBE003 xBL000))) else (impl_Board_ladders.l0 k x4 x5 xBE000 xBE001 xBE002 xBE003 (wrap64 (xBL000 + 1)))
end
def impl_Board_ladders.f (k : Nat) (a0_0 : Int) (a0_1 : Int) (a0_2 : Int) (l0_3 : List (S27)) : Option ((List (S32)) × (List (S27))) := (some (([] : List (S32)) : List (S32))).bind fun yBE => ((some (([] : List (S27)) : List (S27))).bind fun yBH => (if (l0_3.length : Int) = 20 then (some (yBE, yBH)) else (impl_Board_ladders.l0 k yBE yBH a0_0 a0_1 a0_2 l0_3 1)))
def impl_Board_ladders.T13 : Bool × List (List Nat × List Nat) := (true, [([], []), ([], []), ([], []), ([1, 2], [1, 2]), ([3], [3]), ([0, 4, 3], [0, 4]), ([], []), ([], []), ([7], [7]), ([6, 8, 5], [6, 8]), ([5, 9, 0, 1, 2, 3, 4, 5], [0, 5]), ([9, 10, 0, 1, 2, 3, 4, 5, 6, 7, 8, 9, 10], [6, 9])])
def impl_Board_ladders.B13 : List Nat := [0, 0, 0, 6, 14, 31, 0, 0, 128, 511, 1023, 2047]
theorem impl_Board_ladders.tab13 : rtab .any (opsOf Try.f129 13) = impl_Board_ladders.T13 := by kernel_rfl
theorem impl_Board_ladders.bits13 : waitsOk impl_Board_ladders.T13.2 impl_Board_ladders.B13 = true := by kernel_rfl
set_option maxHeartbeats 8000000 in
set_option maxRecDepth 100000 in
theorem impl_Board_ladders.calls (k : Nat) (a0_0 : Int) (a0_1 : Int) (a0_2 : Int) (A0_3 : Option Addr) (c0_3 : Nat) (l0_3 : List (S27)) (r1 : List (S32)) (r2 : List (S27)) (w : World) (hr0_3 : Kd.C k27 w A0_3 l0_3.length l0_3) (hc0_3 : l0_3.length ≤ c0_3) (h : impl_Board_ladders.f k a0_0 a0_1 a0_2 l0_3 = some (r1, r2)) :
  Calls Try.prog 129 #[.agg #[.int .i64 a0_0, .int .i64 a0_1, .int .i64 a0_2, .slice A0_3 l0_3.length c0_3]] w fun e w' => ∃ v0_ v1_ : Value, e = .returned (.tuple #[v0_, v1_]) ∧ Kd.N k32 32 w' w.heap.size (fun k_ => (w.heap.size ≤ k_) ∧ some k_ ≠ (v1_ : Value).ownBlock) v0_ r1 ∧ Kd.R k27 27 w' w.heap.size (fun k_ => (w.heap.size ≤ k_)) v1_ r2 ∧ Below w.heap.size w w' := by
 have hu32 := Try.underlying32
 have hu27 := Try.underlying27
 have HR0_3 := Am hr0_3
 have HC0_3 := Am hc0_3
 clear hr0_3 hc0_3
 have HB := Am (Below.refl w.heap.size w)
 have H : ((some (([] : List (S32)) : List (S32))).bind fun yBE => ((some (([] : List (S27)) : List (S27))).bind fun yBH => (if (l0_3.length : Int) = 20 then (some (yBE, yBH)) else (impl_Board_ladders.l0 k yBE yBH a0_0 a0_1 a0_2 l0_3 1)))) = some (r1, r2) := h
 clear h
 obtain ⟨yBE, hyBE⟩ : ∃ y_ : List (S32), y_ = (([] : List (S32))) := ⟨_, rfl⟩
 replace H : ((some (([] : List (S27)) : List (S27))).bind fun yBH => (if (l0_3.length : Int) = 20 then (some (yBE, yBH)) else (impl_Board_ladders.l0 k yBE yBH a0_0 a0_1 a0_2 l0_3 1))) = some (r1, r2) := by first | (rw [hyBE]; with_reducible exact H) | (have H2_ := (Option.bind_some _ _).symm.trans H; rw [hyBE]; with_reducible exact H2_) | (have H2_ := (Option.bind_some _ _).symm.trans H; with_reducible exact H2_) | with_reducible exact H | (rw [hyBE]; exact H) | exact H
 have NyBE := Am hyBE
 clear hyBE
 obtain ⟨yBH, hyBH⟩ : ∃ y_ : List (S27), y_ = (([] : List (S27))) := ⟨_, rfl⟩
 replace H : (if (l0_3.length : Int) = 20 then (some (yBE, yBH)) else (impl_Board_ladders.l0 k yBE yBH a0_0 a0_1 a0_2 l0_3 1)) = some (r1, r2) := by first | (rw [hyBH]; with_reducible exact H) | (have H2_ := (Option.bind_some _ _).symm.trans H; rw [hyBH]; with_reducible exact H2_) | (have H2_ := (Option.bind_some _ _).symm.trans H; with_reducible exact H2_) | with_reducible exact H | (rw [hyBH]; exact H) | exact H
 have NyBH := Am hyBH
 clear hyBH
 by_cases c2 : (l0_3.length : Int) = 20
 ·rw [if_pos c2] at H
  have c2b0 : ((l0_3.length : Int) == 20) = true := beq_iff_eq.mpr c2
  have c2b1 : ((l0_3.length : Int) != 20) = false := bne_eq_false_iff_eq.mpr c2
  clear c2
  simp only [Option.some.injEq, Prod.mk.injEq] at H
  obtain ⟨rfl, rfl⟩ := H
  go_enter Try.func129, Try.ntmps129
  go_wp2_with (first | ((with_reducible refine gate_dst (N := 1) rfl ?_); refine box_event (by rfl) (N := 1) (by rfl) (cs := #[.int .i64 a0_0, .int .i64 a0_1, .int .i64 a0_2, .slice A0_3 l0_3.length c0_3]) (t := 32) hrS ?_; intro gbBD hg w3 hbox hb; have n0_ := Am (below_step belS hb); have n1_ := Am (hbox); have n2_ := Am (geS hg : w.heap.size ≤ gbBD); have n3_ := n2_; clear HB; revert n0_ n1_ n2_ n3_; intro HB BKBD GWBD GEBD; clear hb hbox hg) | ((with_reducible refine gate_dst (N := 9) rfl ?_); refine Kd.N_lit k32 _ 32 ?hg (N' := 9) ?hd (xs := ([] : List (S32))) (inner := []) (ok := (fun k_ => (w.heap.size ≤ k_) ∧ k_ ≠ gbBD)) (okp := (fun k_ => (w.heap.size ≤ k_) ∧ k_ ≠ gbBD)) ?hr ?hp (fun _ hk => hk) ((show ∀ k_, w3.heap.size ≤ k_ → (fun k_ => (w.heap.size ≤ k_) ∧ k_ ≠ gbBD) k_ from fun k_ hk => ⟨(Nat.le_trans (below_size belS) hk), Kd.freshB (g := gbBD) (o := .cells #[.int .i64 a0_0, .int .i64 a0_1, .int .i64 a0_2, .slice A0_3 l0_3.length c0_3] 32 (0, 0)) (blk_up BKBD.out) k_ hk⟩) _ (Nat.le_refl _)) (Below.refl _ _) (Nat.le_refl _) (by simp) ?_; (case hd => rfl); (case hg => rfl); (case hr => first | (go_simp; done) | (go_simp; rfl)); (case hp => exact (Reps.none _ _)); intro vBF w4 ho5 hb hg_ hnew_; clear hg_ hnew_; (first | rw [← NyBE.out] at ho5 | (simp only [Int.reduceToNat] at ho5; rw [← NyBE.out] at ho5)); have n0_ := Am (Kd.N_lower ho5 (below_size belS)); have n1_ := Am (blk_below (blk_up BKBD.out) hb); have n2_ := Am (below_step belS hb); clear BKBD HB; revert n0_ n1_ n2_; intro HOBG BKBD HB; clear hb ho5) | ((with_reducible refine gate_dst (N := 10) rfl ?_); refine Kd.R_lit k27 _ 27 ?hg (N := 10) ?hd (xs := ([] : List (S27))) (inner := []) (ok := fun _ => True) (okp := fun _ => True) ?hr ?hp (fun _ hk => hk) trivial (Below.refl _ _) (Nat.le_refl _) (by simp) ?_; (case hd => rfl); (case hg => rfl); (case hr => first | (go_simp; done) | (go_simp; rfl)); (case hp => exact (Reps.none _ _)); intro vBI w6 ho7 hb hg_ hnew_; clear hg_ hnew_; (first | rw [← NyBH.out] at ho7 | (simp only [Int.reduceToNat] at ho7; rw [← NyBH.out] at ho7)); have n0_ := Am (Kd.N_elder' (by first | exact Kd.N_up HOBG.out | exact HOBG.out) (Kd.R_base ho7) hb); have n1_ := Am (Kd.R_lower (Kd.R_newM (M := fun k_ => (w.heap.size ≤ k_)) ho7 (below_size belS) (fun k_ h_ => h_)) (below_size belS)); have n2_ := Am (blk_below (blk_up BKBD.out) hb); have n3_ := Am (below_step belS hb); clear HOBG BKBD HB; revert n0_ n1_ n2_ n3_; intro HOBG HOBJ BKBD HB; clear hb ho7; obtain ⟨hcz8_0, hcz8_1, hcz8_2, hcz8_3, hfz8_0, hfz8_1, hfz8_2, hfz8_3⟩ := blk4 BKBD.out))
  go_ret2
  exact ⟨_, _, rfE, by (with_reducible repeat (first | apply Kd.N_alloc | apply Kd.N_drewN | apply Kd.N_drew)); exact Kd.N_mono HOBG.out (fun _ hk => ⟨hk.1.1, hk.2⟩), by (with_reducible repeat (first | apply Kd.R_alloc | apply Kd.R_drewN | apply Kd.R_drew)); exact Kd.R_mono HOBJ.out (fun _ hk => hk.1), by exact belS⟩
 ·rw [if_neg c2] at H
  have c2b0 : ((l0_3.length : Int) == 20) = false := beq_eq_false_iff_ne.mpr c2
  have c2b1 : ((l0_3.length : Int) != 20) = true := bne_iff_ne.mpr c2
  have H' := Am H
  clear H
  go_enter Try.func129, Try.ntmps129
  go_wp2_with (first | ((with_reducible refine gate_dst (N := 1) rfl ?_); refine box_event (by rfl) (N := 1) (by rfl) (cs := #[.int .i64 a0_0, .int .i64 a0_1, .int .i64 a0_2, .slice A0_3 l0_3.length c0_3]) (t := 32) hrS ?_; intro gbBD hg w9 hbox hb; have n0_ := Am (below_step belS hb); have n1_ := Am (hbox); have n2_ := Am (geS hg : w.heap.size ≤ gbBD); have n3_ := n2_; clear HB; revert n0_ n1_ n2_ n3_; intro HB BKBD GWBD GEBD; clear hb hbox hg) | ((with_reducible refine gate_dst (N := 9) rfl ?_); refine Kd.N_lit k32 _ 32 ?hg (N' := 9) ?hd (xs := ([] : List (S32))) (inner := []) (ok := (fun k_ => (w.heap.size ≤ k_) ∧ k_ ≠ gbBD)) (okp := (fun k_ => (w.heap.size ≤ k_) ∧ k_ ≠ gbBD)) ?hr ?hp (fun _ hk => hk) ((show ∀ k_, w9.heap.size ≤ k_ → (fun k_ => (w.heap.size ≤ k_) ∧ k_ ≠ gbBD) k_ from fun k_ hk => ⟨(Nat.le_trans (below_size belS) hk), Kd.freshB (g := gbBD) (o := .cells #[.int .i64 a0_0, .int .i64 a0_1, .int .i64 a0_2, .slice A0_3 l0_3.length c0_3] 32 (0, 0)) (blk_up BKBD.out) k_ hk⟩) _ (Nat.le_refl _)) (Below.refl _ _) (Nat.le_refl _) (by simp) ?_; (case hd => rfl); (case hg => rfl); (case hr => first | (go_simp; done) | (go_simp; rfl)); (case hp => exact (Reps.none _ _)); intro vBF w10 ho11 hb hg_ hnew_; clear hg_ hnew_; (first | rw [← NyBE.out] at ho11 | (simp only [Int.reduceToNat] at ho11; rw [← NyBE.out] at ho11)); have n0_ := Am (Kd.N_lower ho11 (below_size belS)); have n1_ := Am (blk_below (blk_up BKBD.out) hb); have n2_ := Am (below_step belS hb); clear BKBD HB; revert n0_ n1_ n2_; intro HOBG BKBD HB; clear hb ho11) | ((with_reducible refine gate_dst (N := 10) rfl ?_); refine Kd.R_lit k27 _ 27 ?hg (N := 10) ?hd (xs := ([] : List (S27))) (inner := []) (ok := fun _ => True) (okp := fun _ => True) ?hr ?hp (fun _ hk => hk) trivial (Below.refl _ _) (Nat.le_refl _) (by simp) ?_; (case hd => rfl); (case hg => rfl); (case hr => first | (go_simp; done) | (go_simp; rfl)); (case hp => exact (Reps.none _ _)); intro vBI w12 ho13 hb hg_ hnew_; clear hg_ hnew_; (first | rw [← NyBH.out] at ho13 | (simp only [Int.reduceToNat] at ho13; rw [← NyBH.out] at ho13)); have n0_ := Am (Kd.N_elder' (by first | exact Kd.N_up HOBG.out | exact HOBG.out) (Kd.R_base ho13) hb); have n1_ := Am (Kd.R_lower (Kd.R_newM (M := fun k_ => (w.heap.size ≤ k_)) ho13 (below_size belS) (fun k_ h_ => h_)) (below_size belS)); have n2_ := Am (blk_below (blk_up BKBD.out) hb); have n3_ := Am (below_step belS hb); clear HOBG BKBD HB; revert n0_ n1_ n2_ n3_; intro HOBG HOBJ BKBD HB; clear hb ho13; obtain ⟨hcz14_0, hcz14_1, hcz14_2, hcz14_3, hfz14_0, hfz14_1, hfz14_2, hfz14_3⟩ := blk4 BKBD.out) | ((with_reducible refine gate_dst (N := 6) rfl ?_); refine box_event (by rfl) (N := 6) (by rfl) (cs := #[.int .i64 0]) (t := 3) hrS ?_; intro gbBK hg w15 hbox hb; have n0_ := Am (Kd.N_below (Kd.N_elderB (by first | exact Kd.N_up HOBG.out | exact HOBG.out) gbBK (Nat.le_of_eq hg.symm)) hb); have n1_ := Am (Kd.R_below (Kd.R_up HOBJ.out) hb); have n2_ := Am (blk_below (blk_up BKBD.out) hb); have n3_ := Am (below_step belS hb); have n4_ := Am (hbox); have n5_ := Am (geS hg : w.heap.size ≤ gbBK); have n6_ := n5_; have n7_ := Am ((by rw [hg]; exact Nat.ne_of_lt (blk_lt (blk_up BKBD.out)) : gbBD ≠ gbBK)); have n8_ := Am ((by rw [hg]; exact Nat.ne_of_gt (blk_lt (blk_up BKBD.out)) : gbBK ≠ gbBD)); clear HOBG HOBJ BKBD HB; revert n0_ n1_ n2_ n3_ n4_ n5_ n6_ n7_ n8_; intro HOBG HOBJ BKBD HB BKBK GWBK GEBK NBBD_BK NBBK_BD; clear hb hbox hg; have hnb16 := NBBK_BD.out; have hnc16 := NBBD_BK.out; have hcz17_0 : w15.cell? ⟨gbBK, 0, none⟩ = some (.int .i64 0) := (blk_cell BKBK.out 0).trans rfl; have hfz17_0 := blk_frozen BKBK.out 0))
  go_loopg [4, 5, 6] k (fun kq v4 v5 v6 w' => ∃ (x4_1 : List (S32)) (x5_1 : List (S27)) (xBL000_1 : Int) (gbBK : Nat), v6 = .pointer (some ⟨gbBK, 0, none⟩) ∧ Aside0 (w.heap.size ≤ gbBK) ∧ Aside0 (gbBD ≠ gbBK) ∧ Aside0 (impl_Board_ladders.l0 kq x4_1 x5_1 a0_0 a0_1 a0_2 l0_3 xBL000_1 = some (r1, r2)) ∧ Aside0 (kq ≤ k) ∧ Aside0 (Kd.N k32 32 w' w.heap.size (fun k_ => (w.heap.size ≤ k_) ∧ some k_ ≠ (v5 : Value).ownBlock ∧ k_ ≠ gbBD ∧ k_ ≠ gbBK) v4 x4_1) ∧ Aside0 (Kd.R k27 27 w' w.heap.size (fun k_ => (w.heap.size ≤ k_)) v5 x5_1) ∧ Aside0 (w'.heap[gbBD]? = some (.cells #[.int .i64 a0_0, .int .i64 a0_1, .int .i64 a0_2, (.slice A0_3 l0_3.length c0_3)] 32 (0, 0))) ∧ Aside0 (w'.heap[gbBK]? = some (.cells #[.int .i64 xBL000_1] 3 (0, 0))) ∧ Aside0 (Below w.heap.size w w'))
  case atStart => exact ⟨(yBE), (yBH), (1), gbBK, rfl, GEBK, NBBD_BK, H', ⟨Nat.le_refl _⟩, ⟨by (with_reducible repeat (first | apply Kd.N_alloc | apply Kd.N_drewN | apply Kd.N_drew)); exact Kd.N_mono (Kd.N_far (p := ⟨gbBK, 0, none⟩) (Kd.N_mono HOBG.out (fun k_ hk => (⟨hk, hk.2⟩ : _ ∧ k_ ≠ gbBK))) (fun _ hk => hk.2) (.int .i64 1)) (fun _ hk => ⟨hk.1.1.1.1, ⟨hk.1.1.2, ⟨hk.1.1.1.2, hk.1.2⟩⟩⟩)⟩, ⟨by (with_reducible repeat (first | apply Kd.R_alloc | apply Kd.R_drewN | apply Kd.R_drew)); exact Kd.R_mono (Kd.R_far (p := ⟨gbBK, 0, none⟩) (Kd.R_types HOBJ.out BKBK.out (by decide)) (fun _ hk => hk.2) (.int .i64 1)) (fun _ hk => hk.1.1)⟩, ⟨by (with_reducible repeat (first | refine blk_drewN ?_ _ | refine blk_drew ?_ | refine blk_alloc ?_ _)); refine blk_farU ?_ NBBD_BK.out _; exact BKBD.out⟩, ⟨by (with_reducible repeat (first | refine blk_drewN ?_ _ | refine blk_drew ?_ | refine blk_alloc ?_ _)); refine blk_putU (cs := #[.int .i64 0]) ?_ 0 _ rfl; exact BKBK.out⟩, ⟨by exact belS⟩⟩
  case round =>
   clear H'
   try clear c2
   try clear c2b0
   try clear c2b1
   try clear hcz14_0 hcz14_1 hcz14_2 hcz14_3
   try clear hcz17_0
   try clear hfz14_0 hfz14_1 hfz14_2 hfz14_3
   try clear hfz17_0
   clear GWBK GEBK NBBD_BK NBBK_BD
   obtain ⟨x4_1, x5_1, xBL000_1, gbBK, rfl, GEBK, NBBD_BK, HA, HK1, HO_4, HO_5, BKBD, BKBK, HB⟩ := hrel
   have GWBK := GEBK
   have NBBK_BD := Am (fun e_ => NBBD_BK.out e_.symm : gbBK ≠ gbBD)
   cases gk with
   | zero => exact absurd HA.out (by simp [impl_Board_ladders.l0])
   | succ k1 =>
    have H := HA.out
    clear HA
    simp only [impl_Board_ladders.l0] at H
    by_cases c18 : xBL000_1 < a0_0
    ·rw [if_pos c18] at H
     have c18b0 : decide (xBL000_1 < a0_0) = true := decide_eq_true c18
     clear c18
     have HC19 := Am H
     clear H
     have hnb20 := NBBK_BD.out
     have hnc20 := NBBD_BK.out
     have hcz21_0 : wr.cell? ⟨gbBK, 0, none⟩ = some (.int .i64 xBL000_1) := (blk_cell BKBK.out 0).trans rfl
     have hfz21_0 := blk_frozen BKBK.out 0
     obtain ⟨hcz22_0, hcz22_1, hcz22_2, hcz22_3, hfz22_0, hfz22_1, hfz22_2, hfz22_3⟩ := blk4 BKBD.out
     go_upto_region 7 with (fail)
     go_cut [32] (fun v32 wc => ∃ (kq : Nat) (x32_18 : Bool), v32 = .bool x32_18 ∧ Aside0 (impl_Board_ladders.j1 kq x4_1 x5_1 x32_18 a0_0 a0_1 a0_2 l0_3 xBL000_1 = some (r1, r2)) ∧ Aside0 (kq ≤ k1) ∧ Aside0 (Kd.N k32 32 wc w.heap.size (fun k_ => (w.heap.size ≤ k_) ∧ some k_ ≠ (u5 : Value).ownBlock ∧ k_ ≠ gbBD ∧ k_ ≠ gbBK) u4 x4_1) ∧ Aside0 (Kd.R k27 27 wc w.heap.size (fun k_ => (w.heap.size ≤ k_)) u5 x5_1) ∧ Aside0 (wc.heap[gbBD]? = some (.cells #[.int .i64 a0_0, .int .i64 a0_1, .int .i64 a0_2, (.slice A0_3 l0_3.length c0_3)] 32 (0, 0))) ∧ Aside0 (wc.heap[gbBK]? = some (.cells #[.int .i64 xBL000_1] 3 (0, 0))) ∧ Aside0 (Below w.heap.size w wc))
     case first =>
      have H := HC19.out
      clear HC19
      replace H := Option.bind_eq_some_iff.mp H
      obtain ⟨tBL, A230, H⟩ := H
      replace H : (if tBL = true then ((impl_Jump_192.f k1 l0_3 (landV xBL000_1)).bind fun tBM => (impl_Board_ladders.j1 k1 x4_1 x5_1 tBM a0_0 a0_1 a0_2 l0_3 xBL000_1)) else (impl_Board_ladders.j1 k1 x4_1 x5_1 true a0_0 a0_1 a0_2 l0_3 xBL000_1)) = some (r1, r2) := H
      have A23 := Am A230
      clear A230
      by_cases c24 : tBL = true
      ·subst c24
       have H1 : ((impl_Jump_192.f k1 l0_3 (landV xBL000_1)).bind fun tBM => (impl_Board_ladders.j1 k1 x4_1 x5_1 tBM a0_0 a0_1 a0_2 l0_3 xBL000_1)) = some (r1, r2) := by rw [if_pos rfl] at H; exact H
       clear H
       have H := H1
       clear H1
       replace H := Option.bind_eq_some_iff.mp H
       obtain ⟨tBM, A250, H⟩ := H
       replace H : (impl_Board_ladders.j1 k1 x4_1 x5_1 tBM a0_0 a0_1 a0_2 l0_3 xBL000_1) = some (r1, r2) := H
       have A25 := Am A250
       clear A250
       have H' := Am H
       clear H
       have hnb26 := NBBD_BK.out
       have hnc26 := NBBK_BD.out
       obtain ⟨hcz27_0, hcz27_1, hcz27_2, hcz27_3, hfz27_0, hfz27_1, hfz27_2, hfz27_3⟩ := blk4 BKBD.out
       have hcz28_0 : wr.cell? ⟨gbBK, 0, none⟩ = some (.int .i64 xBL000_1) := (blk_cell BKBK.out 0).trans rfl
       have hfz28_0 := blk_frozen BKBK.out 0
       go_wp2_with (first | ((with_reducible refine gate_callee (f := 166) rfl ?_); refine goesL_ (some 25) rfl rfl Try.func166 (by kernel_rfl) rfl #[.agg #[.int .i64 a0_0, .int .i64 a0_1, .int .i64 a0_2, .slice A0_3 l0_3.length c0_3], .int .i64 xBL000_1] rfl argS ?_; (with_reducible refine (impl_Board_isSquare.calls k1 a0_0 a0_1 a0_2 _ _ l0_3 xBL000_1 true _ ?side1 ?side2 A23.out).mono ?_); (case side1 => exact Kd.C_up (Kd.C_below HR0_3.out HB.out)); (case side2 => exact HC0_3.out); rintro e w29 ⟨rfl, hb⟩; refine ⟨_, rfl, ?_⟩; have n0_ := Am (Kd.N_below (by first | exact Kd.N_up HO_4.out | exact HO_4.out) hb); have n1_ := Am (Kd.R_below (Kd.R_up HO_5.out) hb); have n2_ := Am (blk_below (blk_up BKBD.out) hb); have n3_ := Am (blk_below (blk_up BKBK.out) hb); have n4_ := Am (below_step belS hb); clear HO_4 HO_5 BKBD BKBK HB; revert n0_ n1_ n2_ n3_ n4_; intro HO_4 HO_5 BKBD BKBK HB; (try clear hb); obtain ⟨hcz30_0, hcz30_1, hcz30_2, hcz30_3, hfz30_0, hfz30_1, hfz30_2, hfz30_3⟩ := blk4 BKBD.out) | (go_at_call 192; (refine (impl_Jump_192.calls k1 _ _ l0_3 (landAt xBL000_1 gbBK) tBM _ ?side1 ?side2 ((contains_p (x := landAt xBL000_1 gbBK) (y := landV xBL000_1) rfl _ _).trans A25.out) (landAt_ok (blk_up BKBK.out))).mono ?_); (case side1 => exact Kd.C_up (Kd.C_below HR0_3.out HB.out)); (case side2 => exact HC0_3.out); rintro e w31 ⟨rfl, hb⟩; have n0_ := Am (Kd.N_below (by first | exact Kd.N_up HO_4.out | exact HO_4.out) hb); have n1_ := Am (Kd.R_below (Kd.R_up HO_5.out) hb); have n2_ := Am (blk_below (blk_up BKBD.out) hb); have n3_ := Am (blk_below (blk_up BKBK.out) hb); have n4_ := Am (below_step belS hb); clear HO_4 HO_5 BKBD BKBK HB; revert n0_ n1_ n2_ n3_ n4_; intro HO_4 HO_5 BKBD BKBK HB; (try clear hb); (try clear hb2); (try clear hk); (try clear hi)))
       go_meet
       case rel => exact ⟨_, (tBM), rfS, H', ⟨by have := HK1.out; first | omega | exact Nat.le_refl _⟩, ⟨by first | exact Kd.N_up HO_4.out | exact HO_4.out⟩, ⟨by first | exact Kd.R_up HO_5.out | exact HO_5.out⟩, ⟨by first | exact blk_up BKBD.out | exact BKBD.out⟩, ⟨by first | exact blk_up BKBK.out | exact BKBK.out⟩, ⟨by exact belS⟩⟩
      ·replace c24 := Bool.eq_false_iff.mpr c24
       subst c24
       have H1 : (impl_Board_ladders.j1 k1 x4_1 x5_1 true a0_0 a0_1 a0_2 l0_3 xBL000_1) = some (r1, r2) := by rw [if_neg (show ¬ (false = true) by decide)] at H; exact H
       clear H
       have H := H1
       clear H1
       have H' := Am H
       clear H
       have hnb32 := NBBD_BK.out
       have hnc32 := NBBK_BD.out
       obtain ⟨hcz33_0, hcz33_1, hcz33_2, hcz33_3, hfz33_0, hfz33_1, hfz33_2, hfz33_3⟩ := blk4 BKBD.out
       have hcz34_0 : wr.cell? ⟨gbBK, 0, none⟩ = some (.int .i64 xBL000_1) := (blk_cell BKBK.out 0).trans rfl
       have hfz34_0 := blk_frozen BKBK.out 0
       go_wp2_with (first | ((with_reducible refine gate_callee (f := 166) rfl ?_); refine goesL_ (some 25) rfl rfl Try.func166 (by kernel_rfl) rfl #[.agg #[.int .i64 a0_0, .int .i64 a0_1, .int .i64 a0_2, .slice A0_3 l0_3.length c0_3], .int .i64 xBL000_1] rfl argS ?_; (with_reducible refine (impl_Board_isSquare.calls k1 a0_0 a0_1 a0_2 _ _ l0_3 xBL000_1 false _ ?side1 ?side2 A23.out).mono ?_); (case side1 => exact Kd.C_up (Kd.C_below HR0_3.out HB.out)); (case side2 => exact HC0_3.out); rintro e w35 ⟨rfl, hb⟩; refine ⟨_, rfl, ?_⟩; have n0_ := Am (Kd.N_below (by first | exact Kd.N_up HO_4.out | exact HO_4.out) hb); have n1_ := Am (Kd.R_below (Kd.R_up HO_5.out) hb); have n2_ := Am (blk_below (blk_up BKBD.out) hb); have n3_ := Am (blk_below (blk_up BKBK.out) hb); have n4_ := Am (below_step belS hb); clear HO_4 HO_5 BKBD BKBK HB; revert n0_ n1_ n2_ n3_ n4_; intro HO_4 HO_5 BKBD BKBK HB; (try clear hb)))
       go_meet
       case rel => exact ⟨_, (true), rfS, H', ⟨by have := HK1.out; first | omega | exact Nat.le_refl _⟩, ⟨by first | exact Kd.N_up HO_4.out | exact HO_4.out⟩, ⟨by first | exact Kd.R_up HO_5.out | exact HO_5.out⟩, ⟨by first | exact blk_up BKBD.out | exact BKBD.out⟩, ⟨by first | exact blk_up BKBK.out | exact BKBK.out⟩, ⟨by exact belS⟩⟩
     case rest =>
      clear HC19
      try clear c2
      try clear c2b0
      try clear c2b1
      try clear c18
      try clear c18b0
      try clear hcz14_0 hcz14_1 hcz14_2 hcz14_3
      try clear hcz17_0
      try clear hcz21_0
      try clear hcz22_0 hcz22_1 hcz22_2 hcz22_3
      try clear hfz14_0 hfz14_1 hfz14_2 hfz14_3
      try clear hfz17_0
      try clear hfz21_0
      try clear hfz22_0 hfz22_1 hfz22_2 hfz22_3
      obtain ⟨kq, x32_18, rfl, HA, HJ18, HO_4, HO_5, BKBD, BKBK, HB⟩ := hcut
      cases kq with
      | zero => exact absurd HA.out (by simp [impl_Board_ladders.j1])
      | succ kj18 =>
       have H := HA.out
       clear HA
       simp only [impl_Board_ladders.j1] at H
       by_cases c36 : x32_18 = true
       ·subst c36
        have H1 : (impl_Board_ladders.l0 kj18 x4_1 x5_1 a0_0 a0_1 a0_2 l0_3 (wrap64 (xBL000_1 + 1))) = some (r1, r2) := by rw [if_pos rfl] at H; exact H
        clear H
        have H := H1
        clear H1
        have H' := Am H
        clear H
        have hnb37 := NBBK_BD.out
        have hnc37 := NBBD_BK.out
        have hcz38_0 : wc.cell? ⟨gbBK, 0, none⟩ = some (.int .i64 xBL000_1) := (blk_cell BKBK.out 0).trans rfl
        have hfz38_0 := blk_frozen BKBK.out 0
        go_wp2_with (first | ((with_reducible refine gate_dst (N := 6) rfl ?_); refine box_event (by rfl) (N := 6) (by rfl) (cs := #[.int .i64 0]) (t := 3) hrS ?_; intro gbNW hg wNW hbox hb; have n0_ := Am (Kd.N_below (Kd.N_elderB (by first | exact Kd.N_up HO_4.out | exact HO_4.out) gbNW (Nat.le_of_eq hg.symm)) hb); have n1_ := Am (Kd.R_below (Kd.R_elderB (Kd.R_up HO_5.out) gbNW (Nat.le_of_eq hg.symm)) hb); have n2_ := Am (blk_below (blk_up BKBD.out) hb); have n4_ := Am (below_step belS hb); have n6_ := Am (geS hg : w.heap.size ≤ gbNW); have n8_ := Am ((by rw [hg]; exact Nat.ne_of_lt (blk_lt (blk_up BKBD.out)) : gbBD ≠ gbNW)); clear HO_4 HO_5 BKBD BKBK HB; have BKNW := Am (hbox); revert n0_ n1_ n2_ n4_ n6_ n8_; intro HO_4 HO_5 BKBD HB GENW NBD_NW; clear hb hbox hg; have hcnw_0 : wNW.cell? ⟨gbNW, 0, none⟩ = some (.int .i64 0) := (blk_cell BKNW.out 0).trans rfl; have hfnw_0 := blk_frozen BKNW.out 0))
        go_roundg kj18
        case measure => have := HK1.out; have := HJ18.out; omega
        case rel => exact ⟨(x4_1), (x5_1), (wrap64 (xBL000_1 + 1)), gbNW, rfl, GENW, NBD_NW, H', ⟨by have := HK1.out; have := HJ18.out; omega⟩, ⟨by (with_reducible repeat (first | apply Kd.N_alloc | apply Kd.N_drewN | apply Kd.N_drew)); exact Kd.N_mono (Kd.N_far (p := ⟨gbNW, 0, none⟩) (Kd.N_far (p := ⟨gbNW, 0, none⟩) HO_4.out (fun _ hk => hk.2) (.int .i64 xBL000_1)) (fun _ hk => hk.2) (.int .i64 (wrap64 (xBL000_1 + 1)))) (fun _ hk => ⟨hk.1.1, ⟨hk.1.2.1, ⟨hk.1.2.2.1, hk.2⟩⟩⟩)⟩, ⟨by (with_reducible repeat (first | apply Kd.R_alloc | apply Kd.R_drewN | apply Kd.R_drew)); exact Kd.R_mono (Kd.R_far (p := ⟨gbNW, 0, none⟩) (Kd.R_far (p := ⟨gbNW, 0, none⟩) HO_5.out (fun _ hk => hk.2) (.int .i64 xBL000_1)) (fun _ hk => hk.2) (.int .i64 (wrap64 (xBL000_1 + 1)))) (fun _ hk => hk.1)⟩, ⟨by (with_reducible repeat (first | refine blk_drewN ?_ _ | refine blk_drew ?_ | refine blk_alloc ?_ _)); refine blk_farU ?_ NBD_NW.out _; refine blk_farU ?_ NBD_NW.out _; exact BKBD.out⟩, ⟨by (with_reducible repeat (first | refine blk_drewN ?_ _ | refine blk_drew ?_ | refine blk_alloc ?_ _)); refine blk_putU (cs := #[.int .i64 xBL000_1]) ?_ 0 _ rfl; refine blk_putU (cs := #[.int .i64 0]) ?_ 0 _ rfl; exact BKNW.out⟩, ⟨by exact belS⟩⟩
       ·replace c36 := Bool.eq_false_iff.mpr c36
        subst c36
        have H1 : (impl_Board_ladders.l1 kj18 x4_1 x5_1 (wrap64 (xBL000_1 + 1)) a0_0 a0_1 a0_2 l0_3 xBL000_1) = some (r1, r2) := by rw [if_neg (show ¬ (false = true) by decide)] at H; exact H
        clear H
        have H := H1
        clear H1
        have H' := Am H
        clear H
        have hnb39 := NBBK_BD.out
        have hnc39 := NBBD_BK.out
        have hcz40_0 : wc.cell? ⟨gbBK, 0, none⟩ = some (.int .i64 xBL000_1) := (blk_cell BKBK.out 0).trans rfl
        have hfz40_0 := blk_frozen BKBK.out 0
        go_wp2
        go_loopg [4, 5, 7] kj18 (fun kq v4 v5 v7 w' => ∃ (x4_3 : List (S32)) (x5_3 : List (S27)) (x7_3 : Int), v7 = .int .i64 x7_3 ∧ Aside0 (impl_Board_ladders.l1 kq x4_3 x5_3 x7_3 a0_0 a0_1 a0_2 l0_3 xBL000_1 = some (r1, r2)) ∧ Aside0 (kq ≤ kj18) ∧ Aside0 (Kd.N k32 32 w' w.heap.size (fun k_ => (w.heap.size ≤ k_) ∧ some k_ ≠ (v5 : Value).ownBlock ∧ k_ ≠ gbBD ∧ k_ ≠ gbBK) v4 x4_3) ∧ Aside0 (Kd.R k27 27 w' w.heap.size (fun k_ => (w.heap.size ≤ k_)) v5 x5_3) ∧ Aside0 (w'.heap[gbBD]? = some (.cells #[.int .i64 a0_0, .int .i64 a0_1, .int .i64 a0_2, (.slice A0_3 l0_3.length c0_3)] 32 (0, 0))) ∧ Aside0 (w'.heap[gbBK]? = some (.cells #[.int .i64 xBL000_1] 3 (0, 0))) ∧ Aside0 (Below w.heap.size w w'))
        case atStart => exact ⟨(x4_1), (x5_1), (wrap64 (xBL000_1 + 1)), rfS, H', ⟨Nat.le_refl _⟩, ⟨by first | exact Kd.N_up HO_4.out | exact HO_4.out⟩, ⟨by first | exact Kd.R_up HO_5.out | exact HO_5.out⟩, ⟨by first | exact blk_up BKBD.out | exact BKBD.out⟩, ⟨by first | exact blk_up BKBK.out | exact BKBK.out⟩, ⟨by exact belS⟩⟩
        case round =>
         clear H'
         try clear c2
         try clear c2b0
         try clear c2b1
         try clear c18
         try clear c18b0
         try clear c36
         try clear hcz14_0 hcz14_1 hcz14_2 hcz14_3
         try clear hcz17_0
         try clear hcz21_0
         try clear hcz22_0 hcz22_1 hcz22_2 hcz22_3
         try clear hcz40_0
         try clear hfz14_0 hfz14_1 hfz14_2 hfz14_3
         try clear hfz17_0
         try clear hfz21_0
         try clear hfz22_0 hfz22_1 hfz22_2 hfz22_3
         try clear hfz40_0
         obtain ⟨x4_3, x5_3, x7_3, rfl, HA, HK3, HO_4, HO_5, BKBD, BKBK, HB⟩ := hrel
         cases gk with
         | zero => exact absurd HA.out (by simp [impl_Board_ladders.l1])
         | succ k3 =>
          have H := HA.out
          clear HA
          simp only [impl_Board_ladders.l1] at H
          by_cases c41 : x7_3 ≤ a0_0
          ·rw [if_pos c41] at H
           have c41b0 : decide (x7_3 ≤ a0_0) = true := decide_eq_true c41
           clear c41
           replace H := Option.bind_eq_some_iff.mp H
           obtain ⟨tBN, A420, H⟩ := H
           replace H : (if tBN = true then ((impl_Board_added.f k3 a0_0 a0_1 a0_2 l0_3 xBL000_1 x7_3).bind fun btBP => ((some (([(⟨btBP.1, btBP.2.1, btBP.2.2.1, btBP.2.2.2⟩ : S32)] : List (S32)) : List (S32))).bind fun yBV => (if x4_3.length + yBV.length < 2932031007402 then ((some (([(⟨xBL000_1, x7_3⟩ : S27)] : List (S27)) : List (S27))).bind fun yC1 => (if x5_3.length + yC1.length < 8796093022208 then (impl_Board_ladders.l1 k3 (x4_3 ++ yBV) (x5_3 ++ yC1) (wrap64 (x7_3 + 1)) a0_0 a0_1 a0_2 l0_3 xBL000_1) else (none))) else (none)))) else (impl_Board_ladders.l1 k3 x4_3 x5_3 (wrap64 (x7_3 + 1)) a0_0 a0_1 a0_2 l0_3 xBL000_1)) = some (r1, r2) := H
           have A42 := Am A420
           clear A420
           by_cases c43 : tBN = true
           ·subst c43
            have H1 : ((impl_Board_added.f k3 a0_0 a0_1 a0_2 l0_3 xBL000_1 x7_3).bind fun btBP => ((some (([(⟨btBP.1, btBP.2.1, btBP.2.2.1, btBP.2.2.2⟩ : S32)] : List (S32)) : List (S32))).bind fun yBV => (if x4_3.length + yBV.length < 2932031007402 then ((some (([(⟨xBL000_1, x7_3⟩ : S27)] : List (S27)) : List (S27))).bind fun yC1 => (if x5_3.length + yC1.length < 8796093022208 then (impl_Board_ladders.l1 k3 (x4_3 ++ yBV) (x5_3 ++ yC1) (wrap64 (x7_3 + 1)) a0_0 a0_1 a0_2 l0_3 xBL000_1) else (none))) else (none)))) = some (r1, r2) := by rw [if_pos rfl] at H; exact H
            clear H
            have H := H1
            clear H1
            replace H := Option.bind_eq_some_iff.mp H
            obtain ⟨⟨tBP, tBQ, tBR, tBS⟩, A440, H⟩ := H
            replace H : ((some (([(⟨tBP, tBQ, tBR, tBS⟩ : S32)] : List (S32)) : List (S32))).bind fun yBV => (if x4_3.length + yBV.length < 2932031007402 then ((some (([(⟨xBL000_1, x7_3⟩ : S27)] : List (S27)) : List (S27))).bind fun yC1 => (if x5_3.length + yC1.length < 8796093022208 then (impl_Board_ladders.l1 k3 (x4_3 ++ yBV) (x5_3 ++ yC1) (wrap64 (x7_3 + 1)) a0_0 a0_1 a0_2 l0_3 xBL000_1) else (none))) else (none))) = some (r1, r2) := H
            have A44 := Am A440
            clear A440
            obtain ⟨yBV, hyBV⟩ : ∃ y_ : List (S32), y_ = (([(⟨tBP, tBQ, tBR, tBS⟩ : S32)] : List (S32))) := ⟨_, rfl⟩
            replace H : (if x4_3.length + yBV.length < 2932031007402 then ((some (([(⟨xBL000_1, x7_3⟩ : S27)] : List (S27)) : List (S27))).bind fun yC1 => (if x5_3.length + yC1.length < 8796093022208 then (impl_Board_ladders.l1 k3 (x4_3 ++ yBV) (x5_3 ++ yC1) (wrap64 (x7_3 + 1)) a0_0 a0_1 a0_2 l0_3 xBL000_1) else (none))) else (none)) = some (r1, r2) := by first | (rw [hyBV]; with_reducible exact H) | (have H2_ := (Option.bind_some _ _).symm.trans H; rw [hyBV]; with_reducible exact H2_) | (have H2_ := (Option.bind_some _ _).symm.trans H; with_reducible exact H2_) | with_reducible exact H | (rw [hyBV]; exact H) | exact H
            have NyBV := Am hyBV
            clear hyBV
            by_cases c45 : x4_3.length + yBV.length < 2932031007402
            ·rw [if_pos c45] at H
             have LMc45 := Am c45
             clear c45
             obtain ⟨yBY, hyBY⟩ : ∃ y_ : List (S32), y_ = (x4_3 ++ yBV) := ⟨_, rfl⟩
             replace H : ((some (([(⟨xBL000_1, x7_3⟩ : S27)] : List (S27)) : List (S27))).bind fun yC1 => (if x5_3.length + yC1.length < 8796093022208 then (impl_Board_ladders.l1 k3 yBY (x5_3 ++ yC1) (wrap64 (x7_3 + 1)) a0_0 a0_1 a0_2 l0_3 xBL000_1) else (none))) = some (r1, r2) := by first | (rw [hyBY]; with_reducible exact H) | (have H2_ := (Option.bind_some _ _).symm.trans H; rw [hyBY]; with_reducible exact H2_) | (have H2_ := (Option.bind_some _ _).symm.trans H; with_reducible exact H2_) | with_reducible exact H | (rw [hyBY]; exact H) | exact H
             have NyBY := Am hyBY
             clear hyBY
             obtain ⟨yC1, hyC1⟩ : ∃ y_ : List (S27), y_ = (([(⟨xBL000_1, x7_3⟩ : S27)] : List (S27))) := ⟨_, rfl⟩
             replace H : (if x5_3.length + yC1.length < 8796093022208 then (impl_Board_ladders.l1 k3 yBY (x5_3 ++ yC1) (wrap64 (x7_3 + 1)) a0_0 a0_1 a0_2 l0_3 xBL000_1) else (none)) = some (r1, r2) := by first | (rw [hyC1]; with_reducible exact H) | (have H2_ := (Option.bind_some _ _).symm.trans H; rw [hyC1]; with_reducible exact H2_) | (have H2_ := (Option.bind_some _ _).symm.trans H; with_reducible exact H2_) | with_reducible exact H | (rw [hyC1]; exact H) | exact H
             have NyC1 := Am hyC1
             clear hyC1
             by_cases c46 : x5_3.length + yC1.length < 8796093022208
             ·rw [if_pos c46] at H
              have LMc46 := Am c46
              clear c46
              obtain ⟨yC4, hyC4⟩ : ∃ y_ : List (S27), y_ = (x5_3 ++ yC1) := ⟨_, rfl⟩
              replace H : (impl_Board_ladders.l1 k3 yBY yC4 (wrap64 (x7_3 + 1)) a0_0 a0_1 a0_2 l0_3 xBL000_1) = some (r1, r2) := by first | (rw [hyC4]; with_reducible exact H) | (have H2_ := (Option.bind_some _ _).symm.trans H; rw [hyC4]; with_reducible exact H2_) | (have H2_ := (Option.bind_some _ _).symm.trans H; with_reducible exact H2_) | with_reducible exact H | (rw [hyC4]; exact H) | exact H
              have NyC4 := Am hyC4
              clear hyC4
              have H' := Am H
              clear H
              have hnb47 := NBBD_BK.out
              have hnc47 := NBBK_BD.out
              obtain ⟨hcz48_0, hcz48_1, hcz48_2, hcz48_3, hfz48_0, hfz48_1, hfz48_2, hfz48_3⟩ := blk4 BKBD.out
              try go_wp2_with (first | ((with_reducible refine gate_callee (f := 166) rfl ?_); refine goesL_ (some 43) rfl rfl Try.func166 (by kernel_rfl) rfl #[.agg #[.int .i64 a0_0, .int .i64 a0_1, .int .i64 a0_2, .slice A0_3 l0_3.length c0_3], .int .i64 x7_3] rfl argS ?_; (with_reducible refine (impl_Board_isSquare.calls k3 a0_0 a0_1 a0_2 _ _ l0_3 x7_3 true _ ?side1 ?side2 A42.out).mono ?_); (case side1 => exact Kd.C_up (Kd.C_below HR0_3.out HB.out)); (case side2 => exact HC0_3.out); rintro e w49 ⟨rfl, hb⟩; refine ⟨_, rfl, ?_⟩; have n0_ := Am (Kd.N_below (by first | exact Kd.N_up HO_4.out | exact HO_4.out) hb); have n1_ := Am (Kd.R_below (Kd.R_up HO_5.out) hb); have n2_ := Am (blk_below (blk_up BKBD.out) hb); have n3_ := Am (blk_below (blk_up BKBK.out) hb); have n4_ := Am (below_step belS hb); clear HO_4 HO_5 BKBD BKBK HB; revert n0_ n1_ n2_ n3_ n4_; intro HO_4 HO_5 BKBD BKBK HB; (try clear hb); have hcz50_0 : w49.cell? ⟨gbBK, 0, none⟩ = some (.int .i64 xBL000_1) := (blk_cell BKBK.out 0).trans rfl; have hfz50_0 := blk_frozen BKBK.out 0) | ((with_reducible refine gate_dst (N := 8) rfl ?_); refine box_event (by rfl) (N := 8) (by rfl) (cs := #[.int .i64 0, .int .i64 0]) (t := 27) hrS ?_; intro gbBO hg w51 hbox hb; have n0_ := Am (Kd.N_below (Kd.N_elderB (by first | exact Kd.N_up HO_4.out | exact HO_4.out) gbBO (Nat.le_of_eq hg.symm)) hb); have n1_ := Am (Kd.R_below (Kd.R_elderB (Kd.R_up HO_5.out) gbBO (Nat.le_of_eq hg.symm)) hb); have n2_ := Am (blk_below (blk_up BKBD.out) hb); have n3_ := Am (blk_below (blk_up BKBK.out) hb); have n4_ := Am (below_step belS hb); have n5_ := Am (hbox); have n6_ := Am (geS hg : w.heap.size ≤ gbBO); have n7_ := n6_; have n8_ := Am ((by rw [hg]; exact Nat.ne_of_lt (blk_lt (blk_up BKBD.out)) : gbBD ≠ gbBO)); have n9_ := Am ((by rw [hg]; exact Nat.ne_of_gt (blk_lt (blk_up BKBD.out)) : gbBO ≠ gbBD)); have n10_ := Am ((by rw [hg]; exact Nat.ne_of_lt (blk_lt (blk_up BKBK.out)) : gbBK ≠ gbBO)); have n11_ := Am ((by rw [hg]; exact Nat.ne_of_gt (blk_lt (blk_up BKBK.out)) : gbBO ≠ gbBK)); clear HO_4 HO_5 BKBD BKBK HB; revert n0_ n1_ n2_ n3_ n4_ n5_ n6_ n7_ n8_ n9_ n10_ n11_; intro HO_4 HO_5 BKBD BKBK HB BKBO GWBO GEBO NBBD_BO NBBO_BD NBBK_BO NBBO_BK; clear hb hbox hg; have hnb52 := NBBO_BD.out; have hnc52 := NBBD_BO.out; have hnb53 := NBBO_BK.out; have hnc53 := NBBK_BO.out; obtain ⟨hcz54_0, hcz54_1, hfz54_0, hfz54_1⟩ := blk2 BKBO.out; obtain ⟨Ao55, co55, eo55⟩ := Kd.N_slice HO_4.out; subst eo55; obtain ⟨Ao56, co56, eo56⟩ := Kd.R_slice HO_5.out; subst eo56))
              have n0_ : Aside0 (Kd.N k32 32 ((w51.setCell ⟨gbBO, 0, none⟩ (.int .i64 xBL000_1)).setCell ⟨gbBO, 1, none⟩ (.int .i64 x7_3)) w.heap.size (fun k_ => (w.heap.size ≤ k_) ∧ some k_ ≠ (.slice Ao56 x5_3.length co56 : Value).ownBlock ∧ k_ ≠ gbBD ∧ k_ ≠ gbBK ∧ k_ ≠ gbBO) (.slice Ao55 x4_3.length co55) x4_3) := ⟨by (with_reducible repeat (first | apply Kd.N_alloc | apply Kd.N_drewN | apply Kd.N_drew)); exact Kd.N_mono (Kd.N_far (p := ⟨gbBO, 1, none⟩) (Kd.N_far (p := ⟨gbBO, 0, none⟩) (Kd.N_mono HO_4.out (fun k_ hk => (⟨hk, hk.2⟩ : _ ∧ k_ ≠ gbBO))) (fun _ hk => hk.2) (.int .i64 xBL000_1)) (fun _ hk => hk.2) (.int .i64 x7_3)) (fun _ hk => ⟨hk.1.1.1, ⟨hk.1.1.2.1, ⟨hk.1.1.2.2.1, ⟨hk.1.1.2.2.2, hk.1.2⟩⟩⟩⟩)⟩
              have n1_ : Aside0 (Kd.R k27 27 ((w51.setCell ⟨gbBO, 0, none⟩ (.int .i64 xBL000_1)).setCell ⟨gbBO, 1, none⟩ (.int .i64 x7_3)) w.heap.size (fun k_ => (w.heap.size ≤ k_) ∧ k_ ≠ gbBO) (.slice Ao56 x5_3.length co56) x5_3) := ⟨by (with_reducible repeat (first | apply Kd.R_alloc | apply Kd.R_drewN | apply Kd.R_drew)); exact Kd.R_mono (Kd.R_far (p := ⟨gbBO, 1, none⟩) (Kd.R_far (p := ⟨gbBO, 0, none⟩) (Kd.R_mono HO_5.out (fun k_ hk => (⟨hk, hk.2⟩ : _ ∧ k_ ≠ gbBO))) (fun _ hk => hk.2) (.int .i64 xBL000_1)) (fun _ hk => hk.2) (.int .i64 x7_3)) (fun _ hk => ⟨hk.1.1, hk.1.2⟩)⟩
              have n2_ : Aside0 (((w51.setCell ⟨gbBO, 0, none⟩ (.int .i64 xBL000_1)).setCell ⟨gbBO, 1, none⟩ (.int .i64 x7_3)).heap[gbBD]? = some (.cells #[.int .i64 a0_0, .int .i64 a0_1, .int .i64 a0_2, .slice A0_3 l0_3.length c0_3] 32 (0, 0))) := ⟨by (with_reducible repeat (first | refine blk_drewN ?_ _ | refine blk_drew ?_ | refine blk_alloc ?_ _)); refine blk_farU ?_ NBBD_BO.out _; refine blk_farU ?_ NBBD_BO.out _; exact BKBD.out⟩
              have n3_ : Aside0 (((w51.setCell ⟨gbBO, 0, none⟩ (.int .i64 xBL000_1)).setCell ⟨gbBO, 1, none⟩ (.int .i64 x7_3)).heap[gbBK]? = some (.cells #[.int .i64 xBL000_1] 3 (0, 0))) := ⟨by (with_reducible repeat (first | refine blk_drewN ?_ _ | refine blk_drew ?_ | refine blk_alloc ?_ _)); refine blk_farU ?_ NBBK_BO.out _; refine blk_farU ?_ NBBK_BO.out _; exact BKBK.out⟩
              have n4_ : Aside0 (((w51.setCell ⟨gbBO, 0, none⟩ (.int .i64 xBL000_1)).setCell ⟨gbBO, 1, none⟩ (.int .i64 x7_3)).heap[gbBO]? = some (.cells #[.int .i64 xBL000_1, .int .i64 x7_3] 27 (0, 0))) := ⟨by (with_reducible repeat (first | refine blk_drewN ?_ _ | refine blk_drew ?_ | refine blk_alloc ?_ _)); refine blk_put (cs := #[.int .i64 xBL000_1, .int .i64 0]) ?_ 1 _ rfl; refine blk_putU (cs := #[.int .i64 0, .int .i64 0]) ?_ 0 _ rfl; exact BKBO.out⟩
              have n5_ : Aside0 (Below w.heap.size w ((w51.setCell ⟨gbBO, 0, none⟩ (.int .i64 xBL000_1)).setCell ⟨gbBO, 1, none⟩ (.int .i64 x7_3))) := ⟨by exact belS⟩
              (try clear HO_4)
              (try clear HO_5)
              (try clear BKBD)
              (try clear BKBK)
              (try clear BKBO)
              (try clear HB)
              generalize ((w51.setCell ⟨gbBO, 0, none⟩ (.int .i64 xBL000_1)).setCell ⟨gbBO, 1, none⟩ (.int .i64 x7_3)) = w57 at n0_ n1_ n2_ n3_ n4_ n5_ ⊢
              have HO_4 := n0_
              have HO_5 := n1_
              have BKBD := n2_
              have BKBK := n3_
              have BKBO := n4_
              have HB := n5_
              clear n0_ n1_ n2_ n3_ n4_ n5_
              have n0_ := Am (Kd.N_drew HO_4.out)
              have n1_ := Am (Kd.R_drew HO_5.out)
              have n2_ := Am (blk_drew BKBD.out)
              have n3_ := Am (blk_drew BKBK.out)
              have n4_ := Am (blk_drew BKBO.out)
              have n5_ := Am (below_drew1 HB.out)
              clear HO_4
              clear HO_5
              clear BKBD
              clear BKBK
              clear BKBO
              clear HB
              have HO_4 := n0_
              have HO_5 := n1_
              have BKBD := n2_
              have BKBK := n3_
              have BKBO := n4_
              have HB := n5_
              clear n0_ n1_ n2_ n3_ n4_ n5_
              refine start_ (n := 12) (S := fun w' => w'.cell? ⟨gbBD, 0, none⟩ = some (.int .i64 a0_0) ∧ w'.cell? ⟨gbBD, 1, none⟩ = some (.int .i64 a0_1) ∧ w'.cell? ⟨gbBD, 2, none⟩ = some (.int .i64 a0_2) ∧ w'.cell? ⟨gbBD, 3, none⟩ = some (.slice A0_3 l0_3.length c0_3) ∧ w'.cell? ⟨gbBO, 0, none⟩ = some (.int .i64 xBL000_1) ∧ w'.cell? ⟨gbBO, 1, none⟩ = some (.int .i64 x7_3)) (ds := []) #[false, false, false, false, false, false, false, false, false, false, false, false] (by kernel_rfl) rfl rfl ⟨(blk_cell BKBD.out 0).trans rfl, (blk_cell BKBD.out 1).trans rfl, (blk_cell BKBD.out 2).trans rfl, (blk_cell BKBD.out 3).trans rfl, (blk_cell BKBO.out 0).trans rfl, (blk_cell BKBO.out 1).trans rfl⟩ (fun hHeld => ?_); refine with_tabW impl_Board_ladders.tab13 impl_Board_ladders.bits13 (fun HT_ HW_ => ?_)
              generalize w57.drew = w58 at HO_4 HO_5 BKBD BKBK BKBO HB hHeld ⊢
              refine puS 0 47 ?_
              refine puS 6 53 ?_
              refine tkS 1 48 ?_
              refine tkS 2 49 ?_
              refine tkS 7 54 ?_
              refine join_ (σ := Value × Value × Value × Value) 3 bImplBoardLadders_0 (fun s_ => [(50, .agg #[.int .i64 tBP, .int .i64 tBQ, .int .i64 tBR, s_.1]), (51, s_.2.1), (52, s_.2.2.1), (55, s_.2.2.2)]) (fun s_ w' => (w'.cell? ⟨gbBD, 0, none⟩ = some (.int .i64 a0_0) ∧ w'.cell? ⟨gbBD, 1, none⟩ = some (.int .i64 a0_1) ∧ w'.cell? ⟨gbBD, 2, none⟩ = some (.int .i64 a0_2) ∧ w'.cell? ⟨gbBD, 3, none⟩ = some (.slice A0_3 l0_3.length c0_3) ∧ w'.cell? ⟨gbBO, 0, none⟩ = some (.int .i64 xBL000_1) ∧ w'.cell? ⟨gbBO, 1, none⟩ = some (.int .i64 x7_3)) ∧ (Kd.N k32 32 w' w.heap.size (fun k_ => (w.heap.size ≤ k_) ∧ some k_ ≠ (s_.2.2.1 : Value).ownBlock ∧ some k_ ≠ (s_.2.2.2 : Value).ownBlock ∧ some k_ ≠ (.slice Ao56 x5_3.length co56 : Value).ownBlock ∧ k_ ≠ gbBD ∧ k_ ≠ gbBK ∧ k_ ≠ gbBO) s_.2.1 yBV) ∧ (Kd.N k32 32 w' w.heap.size (fun k_ => (w.heap.size ≤ k_) ∧ some k_ ≠ (s_.2.2.2 : Value).ownBlock ∧ some k_ ≠ (.slice Ao56 x5_3.length co56 : Value).ownBlock ∧ k_ ≠ gbBD ∧ k_ ≠ gbBK ∧ k_ ≠ gbBO) s_.2.2.1 yBY) ∧ (Kd.R k27 27 w' w.heap.size (fun k_ => (w.heap.size ≤ k_) ∧ some k_ ≠ (.slice Ao56 x5_3.length co56 : Value).ownBlock ∧ k_ ≠ gbBO) s_.2.2.2 yC1) ∧ (Kd.R k27 27 w' w.heap.size (fun k_ => (w.heap.size ≤ k_) ∧ some k_ ≠ (s_.2.2.2 : Value).ownBlock ∧ k_ ≠ gbBO) (.slice Ao56 x5_3.length co56) x5_3) ∧ (w'.heap[gbBD]? = some (.cells #[.int .i64 a0_0, .int .i64 a0_1, .int .i64 a0_2, .slice A0_3 l0_3.length c0_3] 32 (0, 0))) ∧ (w'.heap[gbBK]? = some (.cells #[.int .i64 xBL000_1] 3 (0, 0))) ∧ (w'.heap[gbBO]? = some (.cells #[.int .i64 xBL000_1, .int .i64 x7_3] 27 (0, 0))) ∧ (Below w.heap.size w w')) ?_ ?_
              rotate_left
              ·intro hCont
               refine two_ (i := 3) (j := 8) (Ni := some 50) (Nj := some 55) #[true, true, true, true, false, false, true, true, false, false, false, false] #[true, true, true, false, false, false, true, true, true, false, false, false] rfl rfl rfl rfl (two_of HT_.out (by kernel_rfl)) (by decide) (by decide) (fun K hK => ?_) (fun K hK => ?_)
               ·skip
                refine goes_ Try.func179 (by kernel_rfl) rfl #[.agg #[.int .i64 a0_0, .int .i64 a0_1, .int .i64 a0_2, .slice A0_3 l0_3.length c0_3], .agg #[.int .i64 xBL000_1, .int .i64 x7_3]] (by rfl) rfl rfl argS ?_
                with_reducible refine (impl_Board_added.calls k3 a0_0 a0_1 a0_2 _ _ l0_3 xBL000_1 x7_3 tBP tBQ tBR tBS _ ?side1 ?side2 A44.out).mono ?_
                (case side1 => exact Kd.C_up (Kd.C_below HR0_3.out HB.out))
                (case side2 => exact HC0_3.out)
                rintro e w59 ⟨vBT, rfl, ho0, hb⟩
                refine ⟨_, rfl, ?_⟩
                have n0_ := Am (Kd.N_elder' (by first | exact Kd.N_up HO_4.out | exact HO_4.out) (Kd.R_base ho0) hb)
                have n1_ := Am (Kd.R_elder' (Kd.R_up HO_5.out) (Kd.R_base ho0) hb)
                have n2_ := Am (Kd.R_lower (Kd.R_newB (Kd.R_new' (Kd.R_newM (M := fun k_ => (w.heap.size ≤ k_)) ho0 (below_size belS) (fun k_ h_ => h_)) (Kd.R_lt (Kd.R_up HO_5.out))) (g := gbBO) (o := .cells #[.int .i64 xBL000_1, .int .i64 x7_3] 27 (0, 0)) (blk_up BKBO.out)) (below_size belS))
                have n3_ := Am (blk_below (blk_up BKBD.out) hb)
                have n4_ := Am (blk_below (blk_up BKBK.out) hb)
                have n5_ := Am (blk_below (blk_up BKBO.out) hb)
                have n6_ := Am (below_step belS hb)
                clear HO_4
                clear HO_5
                clear BKBD
                clear BKBK
                clear BKBO
                clear HB
                have HO_4 := n0_
                have HO_5 := n1_
                have HOBU := n2_
                have BKBD := n3_
                have BKBK := n4_
                have BKBO := n5_
                have HB := n6_
                clear n0_ n1_ n2_ n3_ n4_ n5_ n6_
                (try clear hb)
                (try clear hb2)
                (try clear hk)
                (try clear hi)
                (try clear ho0)
                obtain ⟨Ao60, co60, eo60⟩ := Kd.R_slice HOBU.out
                (first | subst eo60 | (injection eo60 with f1_ f2_ f3_; have f4_ := f1_.symm; have f5_ := f3_.symm; clear f1_ f2_ f3_; subst f4_; subst f5_))
                refine hK.out _ _ ⟨(blk_cell BKBD.out 0).trans rfl, (blk_cell BKBD.out 1).trans rfl, (blk_cell BKBD.out 2).trans rfl, (blk_cell BKBD.out 3).trans rfl, (blk_cell BKBO.out 0).trans rfl, (blk_cell BKBO.out 1).trans rfl⟩ (fun hHeld => ?_)
                clear hK K
                refine norm_ (a' := ?_) ?_ ?_
                rotate_left
                ·show Act.put _ (some 50) _ = _
                 simp only [Act.put, sA_, sB_, sC_, i64_w, i32_w]
                 rfl
                refine two_ (i := 4) (j := 8) (Ni := some 51) (Nj := some 55) #[true, true, true, true, true, false, true, true, false, false, false, false] bImplBoardLadders_1 rfl rfl rfl rfl (two_of HT_.out (by kernel_rfl)) (by decide) (by decide) (fun K hK => ?_) (fun K hK => ?_)
                ·skip
                 refine Kd.N_lit_step k32 _ 32 ?hg (N' := 51) ?hd (xs := ([(⟨tBP, tBQ, tBR, tBS⟩ : S32)] : List (S32))) (inner := [.int .i64 tBP, .int .i64 tBQ, .int .i64 tBR, .slice Ao60 tBS.length co60]) (ok := (fun k_ => (w.heap.size ≤ k_) ∧ some k_ ≠ (.slice Ao55 x4_3.length co55 : Value).ownBlock ∧ some k_ ≠ (.slice Ao56 x5_3.length co56 : Value).ownBlock ∧ k_ ≠ gbBD ∧ k_ ≠ gbBK ∧ k_ ≠ gbBO)) (okp := (fun k_ => (w.heap.size ≤ k_) ∧ some k_ ≠ (.slice Ao55 x4_3.length co55 : Value).ownBlock ∧ some k_ ≠ (.slice Ao56 x5_3.length co56 : Value).ownBlock ∧ k_ ≠ gbBD ∧ k_ ≠ gbBK ∧ k_ ≠ gbBO)) ?hr ?hp (fun _ hk => hk) ((show ∀ k_, w59.heap.size ≤ k_ → (fun k_ => (w.heap.size ≤ k_) ∧ some k_ ≠ (.slice Ao55 x4_3.length co55 : Value).ownBlock ∧ some k_ ≠ (.slice Ao56 x5_3.length co56 : Value).ownBlock ∧ k_ ≠ gbBD ∧ k_ ≠ gbBK ∧ k_ ≠ gbBO) k_ from fun k_ hk => ⟨(Nat.le_trans (below_size belS) hk), Kd.fresh' (Kd.N_lt (by first | exact Kd.N_up HO_4.out | exact HO_4.out)) k_ hk, Kd.fresh' (Kd.R_lt (Kd.R_up HO_5.out)) k_ hk, Kd.freshB (g := gbBD) (o := .cells #[.int .i64 a0_0, .int .i64 a0_1, .int .i64 a0_2, .slice A0_3 l0_3.length c0_3] 32 (0, 0)) (blk_up BKBD.out) k_ hk, Kd.freshB (g := gbBK) (o := .cells #[.int .i64 xBL000_1] 3 (0, 0)) (blk_up BKBK.out) k_ hk, Kd.freshB (g := gbBO) (o := .cells #[.int .i64 xBL000_1, .int .i64 x7_3] 27 (0, 0)) (blk_up BKBO.out) k_ hk⟩) _ (Nat.le_refl _)) (Below.refl _ _) (Nat.le_refl _) (by simp) ?_; (case hd => rfl); (case hg => rfl); (case hr => first | (go_simp; done) | (go_simp; rfl)); (case hp => exact (Reps.c4 (show Kd.FK k32 _ _ (⟨tBP, tBQ, tBR, tBS⟩ : S32) [.int .i64 tBP, .int .i64 tBQ, .int .i64 tBR, .slice Ao60 tBS.length co60] from (k32_mkF _ _ (⟨tBP, tBQ, tBR, tBS⟩ : S32) (Kd.R_reads' (Kd.R_mono (ok' := (fun k_ => (w.heap.size ≤ k_) ∧ some k_ ≠ (.slice Ao55 x4_3.length co55 : Value).ownBlock ∧ some k_ ≠ (.slice Ao56 x5_3.length co56 : Value).ownBlock ∧ k_ ≠ gbBD ∧ k_ ≠ gbBK ∧ k_ ≠ gbBO)) (Kd.R_types (Kd.R_types (Kd.R_apart' (HOBU.out) (Kd.N_typed HO_4.out) (by decide)) BKBD.out (by decide)) BKBK.out (by decide)) (fun k_ hk => ⟨hk.1.1.1.1.1.1, ⟨hk.1.1.2, ⟨hk.1.1.1.1.2, ⟨hk.1.2, ⟨hk.2, hk.1.1.1.2⟩⟩⟩⟩⟩))).2.1 (Kd.R_F (Kd.R_mono (ok' := (fun k_ => (w.heap.size ≤ k_) ∧ some k_ ≠ (.slice Ao55 x4_3.length co55 : Value).ownBlock ∧ some k_ ≠ (.slice Ao56 x5_3.length co56 : Value).ownBlock ∧ k_ ≠ gbBD ∧ k_ ≠ gbBK ∧ k_ ≠ gbBO)) (Kd.R_types (Kd.R_types (Kd.R_apart' (HOBU.out) (Kd.N_typed HO_4.out) (by decide)) BKBD.out (by decide)) BKBK.out (by decide)) (fun k_ hk => ⟨hk.1.1.1.1.1.1, ⟨hk.1.1.2, ⟨hk.1.1.1.1.2, ⟨hk.1.2, ⟨hk.2, hk.1.1.1.2⟩⟩⟩⟩⟩))))) (Reps.none _ _)))
                 intro vBW w61 ho62 hb hg_ hnew_
                 clear hg_ hnew_
                 (first | rw [← NyBV.out] at ho62 | (simp only [Int.reduceToNat] at ho62; rw [← NyBV.out] at ho62))
                 have n0_ := Am (Kd.N_elder' (by first | exact Kd.N_up HO_4.out | exact HO_4.out) (Kd.N_base ho62) hb)
                 have n1_ := Am (Kd.R_below (Kd.R_up HO_5.out) hb)
                 have n2_ := Am (Kd.N_lower ho62 (below_size belS))
                 have n3_ := Am (blk_below (blk_up BKBD.out) hb)
                 have n4_ := Am (blk_below (blk_up BKBK.out) hb)
                 have n5_ := Am (blk_below (blk_up BKBO.out) hb)
                 have n6_ := Am (below_step belS hb)
                 clear HO_4
                 clear HO_5
                 clear BKBD
                 clear BKBK
                 clear BKBO
                 clear HB
                 clear HOBU
                 have HO_4 := n0_
                 have HO_5 := n1_
                 have HOBX := n2_
                 have BKBD := n3_
                 have BKBK := n4_
                 have BKBO := n5_
                 have HB := n6_
                 clear n0_ n1_ n2_ n3_ n4_ n5_ n6_
                 clear hb ho62
                 obtain ⟨Ao64, co64, eo64⟩ := Kd.N_slice HOBX.out
                 (first | subst eo64 | (injection eo64 with f1_ f2_ f3_; have f4_ := f1_.symm; have f5_ := f3_.symm; clear f1_ f2_ f3_; subst f4_; subst f5_))
                 refine hK.out _ _ ⟨(blk_cell BKBD.out 0).trans rfl, (blk_cell BKBD.out 1).trans rfl, (blk_cell BKBD.out 2).trans rfl, (blk_cell BKBD.out 3).trans rfl, (blk_cell BKBO.out 0).trans rfl, (blk_cell BKBO.out 1).trans rfl⟩ (fun hHeld => ?_)
                 clear hK K
                 refine norm_ (a' := ?_) ?_ ?_
                 rotate_left
                 ·show Act.put _ (some 51) _ = _
                  simp only [Act.put, sA_, sB_, sC_, i64_w, i32_w]
                  rfl
                 refine two_ (i := 5) (j := 8) (Ni := some 52) (Nj := some 55) #[true, true, true, true, true, true, true, true, false, false, false, false] bImplBoardLadders_2 rfl rfl rfl rfl (two_of HT_.out (by kernel_rfl)) (by decide) (by decide) (fun K hK => ?_) (fun K hK => ?_)
                 ·skip
                  refine Kd.N_append_rows_step k32 (w0 := w) w.heap.size (by rfl) (.tmp 47) (.tmp 51) 96 32 (.agg #[(.int .i64 0), (.int .i64 0), (.int .i64 0), (.slice none 0 0)]) 48 rfl Try.underlying96 info32 rfl (by decide) (by omega) (.slice Ao55 x4_3.length co55) x4_3 yBV _ _ _ (fun k_ => (w.heap.size ≤ k_) ∧ some k_ ≠ (.slice Ao56 x5_3.length co56 : Value).ownBlock ∧ k_ ≠ gbBD ∧ k_ ≠ gbBK ∧ k_ ≠ gbBO) (fun k_ => ((fun k_ => (w.heap.size ≤ k_) ∧ some k_ ≠ (.slice Ao56 x5_3.length co56 : Value).ownBlock ∧ k_ ≠ gbBD ∧ k_ ≠ gbBK ∧ k_ ≠ gbBO)) k_ ∧ some k_ ≠ (.slice Ao55 x4_3.length co55 : Value).ownBlock) rfl rfl ?aO ?aR (fun _ hk => hk) ?aF ?aB ?aS ?aL ?_
                  (case aR => exact (by skip; exact Kd.N_F (Kd.N_mono (ok' := (fun k_ => ((fun k_ => (w.heap.size ≤ k_) ∧ some k_ ≠ (.slice Ao56 x5_3.length co56 : Value).ownBlock ∧ k_ ≠ gbBD ∧ k_ ≠ gbBK ∧ k_ ≠ gbBO)) k_ ∧ some k_ ≠ (.slice Ao55 x4_3.length co55 : Value).ownBlock)) (HOBX.out) (fun k_ hk => ⟨⟨hk.1, ⟨hk.2.2.1, ⟨hk.2.2.2.1, ⟨hk.2.2.2.2.1, hk.2.2.2.2.2⟩⟩⟩⟩, hk.2.1⟩))))
                  (case aB => exact belS)
                  (case aF => exact (fun k_ hk => ⟨(Nat.le_trans (below_size belS) hk), Kd.fresh' (Kd.R_lt (Kd.R_up HO_5.out)) k_ hk, Kd.freshB (g := gbBD) (o := .cells #[.int .i64 a0_0, .int .i64 a0_1, .int .i64 a0_2, .slice A0_3 l0_3.length c0_3] 32 (0, 0)) (blk_up BKBD.out) k_ hk, Kd.freshB (g := gbBK) (o := .cells #[.int .i64 xBL000_1] 3 (0, 0)) (blk_up BKBK.out) k_ hk, Kd.freshB (g := gbBO) (o := .cells #[.int .i64 xBL000_1, .int .i64 x7_3] 27 (0, 0)) (blk_up BKBO.out) k_ hk⟩))
                  (case aO => exact (by (with_reducible repeat (first | apply Kd.N_alloc | apply Kd.N_drewN | apply Kd.N_drew)); exact Kd.N_mono HO_4.out (fun _ hk => ⟨hk.1.1.1, ⟨hk.1.1.2.1, ⟨hk.1.1.2.2.1, ⟨hk.1.1.2.2.2.1, hk.1.1.2.2.2.2⟩⟩⟩⟩)))
                  (case aS => exact (below_size belS))
                  (case aL => have := LMc45.out; omega)
                  intro vBZ w63 ho hb hg hat
                  rw [← NyBY.out] at ho
                  have n0_ := Am (Kd.R_over' (Kd.R_up HO_5.out) (Kd.N_typed (by first | exact Kd.N_up HO_4.out | exact HO_4.out)) (by decide) hg)
                  have n1_ := Am (blk_grown (g := gbBD) (o := .cells #[.int .i64 a0_0, .int .i64 a0_1, .int .i64 a0_2, .slice A0_3 l0_3.length c0_3] 32 (0, 0)) (blk_up BKBD.out) hg (Kd.N_away HO_4.out (fun _ hk => hk.1.1.2.2.1)))
                  have n2_ := Am (blk_grown (g := gbBK) (o := .cells #[.int .i64 xBL000_1] 3 (0, 0)) (blk_up BKBK.out) hg (Kd.N_ne HO_4.out BKBK.out (by decide)))
                  have n3_ := Am (blk_grown (g := gbBO) (o := .cells #[.int .i64 xBL000_1, .int .i64 x7_3] 27 (0, 0)) (blk_up BKBO.out) hg (Kd.N_ne HO_4.out BKBO.out (by decide)))
                  have n4_ := Am (Kd.N_afterv (ok := (fun k_ => (w.heap.size ≤ k_) ∧ some k_ ≠ (.slice Ao56 x5_3.length co56 : Value).ownBlock ∧ k_ ≠ gbBD ∧ k_ ≠ gbBK ∧ k_ ≠ gbBO)) (by (with_reducible repeat (first | apply Kd.N_alloc | apply Kd.N_drewN | apply Kd.N_drew)); exact Kd.N_mono HOBX.out (fun _ hk => ⟨⟨hk.1, ⟨hk.2.2.1, ⟨hk.2.2.2.1, ⟨hk.2.2.2.2.1, hk.2.2.2.2.2⟩⟩⟩⟩, hk.2.1⟩)) hg hat)
                  have n5_ := Am (hb)
                  have n6_ := Am (ho)
                  clear HO_5
                  clear BKBD
                  clear BKBK
                  clear BKBO
                  clear HOBX
                  clear HB
                  clear HO_4
                  have HO_5 := n0_
                  have BKBD := n1_
                  have BKBK := n2_
                  have BKBO := n3_
                  have HOBX := n4_
                  have HB := n5_
                  have HOC0 := n6_
                  clear n0_ n1_ n2_ n3_ n4_ n5_ n6_
                  clear ho hb hg hat
                  refine hK.out _ _ ⟨(blk_cell BKBD.out 0).trans rfl, (blk_cell BKBD.out 1).trans rfl, (blk_cell BKBD.out 2).trans rfl, (blk_cell BKBD.out 3).trans rfl, (blk_cell BKBO.out 0).trans rfl, (blk_cell BKBO.out 1).trans rfl⟩ (fun hHeld => ?_)
                  clear hK K
                  refine norm_ (a' := ?_) ?_ ?_
                  rotate_left
                  ·show Act.put _ (some 52) _ = _
                   simp only [Act.put, sA_, sB_, sC_, i64_w, i32_w]
                   rfl
                  refine one_ (i := 8) (N := some 55) bImplBoardLadders_0 rfl rfl (one_of HT_.out (by kernel_rfl)) (by decide) (fun K hK => ?_)
                  refine Kd.R_lit_step k27 _ 27 ?hg (N := 55) ?hd (xs := ([(⟨xBL000_1, x7_3⟩ : S27)] : List (S27))) (inner := [.int .i64 xBL000_1, .int .i64 x7_3]) (ok := fun _ => True) (okp := fun _ => True) ?hr ?hp (fun _ hk => hk) trivial (Below.refl _ _) (Nat.le_refl _) (by simp) ?_; (case hd => rfl); (case hg => rfl); (case hr => first | (go_simp; done) | (go_simp; rfl)); (case hp => exact (Reps.c2 (show Kd.M k27 _ _ _ (⟨xBL000_1, x7_3⟩ : S27) [.int .i64 xBL000_1, .int .i64 x7_3] from (k27_mkM _ _ _ (⟨xBL000_1, x7_3⟩ : S27) )) (Reps.none _ _)))
                  intro vC2 w65 ho66 hb hg_ hnew_
                  clear hg_ hnew_
                  (first | rw [← NyC1.out] at ho66 | (simp only [Int.reduceToNat] at ho66; rw [← NyC1.out] at ho66))
                  have n0_ := Am (Kd.R_elder' (Kd.R_up HO_5.out) (Kd.R_base ho66) hb)
                  have n1_ := Am (Kd.N_elder' (by first | exact Kd.N_up HOBX.out | exact HOBX.out) (Kd.R_base ho66) hb)
                  have n2_ := Am (Kd.N_elder' (by first | exact Kd.N_up HOC0.out | exact HOC0.out) (Kd.R_base ho66) hb)
                  have n3_ := Am (Kd.R_lower (Kd.R_newB (Kd.R_new' (Kd.R_newM (M := fun k_ => (w.heap.size ≤ k_)) ho66 (below_size belS) (fun k_ h_ => h_)) (Kd.R_lt (Kd.R_up HO_5.out))) (g := gbBO) (o := .cells #[.int .i64 xBL000_1, .int .i64 x7_3] 27 (0, 0)) (blk_up BKBO.out)) (below_size belS))
                  have n4_ := Am (blk_below (blk_up BKBD.out) hb)
                  have n5_ := Am (blk_below (blk_up BKBK.out) hb)
                  have n6_ := Am (blk_below (blk_up BKBO.out) hb)
                  have n7_ := Am (below_step belS hb)
                  clear HO_5
                  clear HOBX
                  clear HOC0
                  clear BKBD
                  clear BKBK
                  clear BKBO
                  clear HB
                  have HO_5 := n0_
                  have HOBX := n1_
                  have HOC0 := n2_
                  have HOC3 := n3_
                  have BKBD := n4_
                  have BKBK := n5_
                  have BKBO := n6_
                  have HB := n7_
                  clear n0_ n1_ n2_ n3_ n4_ n5_ n6_ n7_
                  clear hb ho66
                  refine hK.out _ _ ⟨(blk_cell BKBD.out 0).trans rfl, (blk_cell BKBD.out 1).trans rfl, (blk_cell BKBD.out 2).trans rfl, (blk_cell BKBD.out 3).trans rfl, (blk_cell BKBO.out 0).trans rfl, (blk_cell BKBO.out 1).trans rfl⟩ (fun hHeld => ?_)
                  clear hK K
                  refine norm_ (a' := ?_) ?_ ?_
                  rotate_left
                  ·show Act.put _ (some 55) _ = _
                   simp only [Act.put, sA_, sB_, sC_, i64_w, i32_w]
                   rfl
                  exact norm_ (by simp only [putAll, Act.put, sA_, sB_, sC_]) (hCont (.slice Ao60 tBS.length co60, .slice Ao64 yBV.length co64, vBZ, vC2) _ ⟨hHeld, (by (with_reducible repeat (first | apply Kd.N_alloc | apply Kd.N_drewN | apply Kd.N_drew)); exact Kd.N_mono HOBX.out (fun _ hk => ⟨hk.1.1.1, ⟨hk.1.2, ⟨hk.2, ⟨hk.1.1.2.1, ⟨hk.1.1.2.2.1, ⟨hk.1.1.2.2.2.1, hk.1.1.2.2.2.2⟩⟩⟩⟩⟩⟩)), (by (with_reducible repeat (first | apply Kd.N_alloc | apply Kd.N_drewN | apply Kd.N_drew)); exact Kd.N_mono HOC0.out (fun _ hk => ⟨hk.1.1, ⟨hk.2, ⟨hk.1.2.1, ⟨hk.1.2.2.1, ⟨hk.1.2.2.2.1, hk.1.2.2.2.2⟩⟩⟩⟩⟩)), (by (with_reducible repeat (first | apply Kd.R_alloc | apply Kd.R_drewN | apply Kd.R_drew)); exact Kd.R_mono HOC3.out (fun _ hk => ⟨hk.1.1.1, ⟨hk.1.2, hk.2⟩⟩)), (by (with_reducible repeat (first | apply Kd.R_alloc | apply Kd.R_drewN | apply Kd.R_drew)); exact Kd.R_mono HO_5.out (fun _ hk => ⟨hk.1.1.1, ⟨hk.2, hk.1.1.2⟩⟩)), (blk_up BKBD.out), (blk_up BKBK.out), (blk_up BKBO.out), belS⟩)
                 ·skip
                  refine Kd.R_lit_step k27 _ 27 ?hg (N := 55) ?hd (xs := ([(⟨xBL000_1, x7_3⟩ : S27)] : List (S27))) (inner := [.int .i64 xBL000_1, .int .i64 x7_3]) (ok := fun _ => True) (okp := fun _ => True) ?hr ?hp (fun _ hk => hk) trivial (Below.refl _ _) (Nat.le_refl _) (by simp) ?_; (case hd => rfl); (case hg => rfl); (case hr => first | (go_simp; done) | (go_simp; rfl)); (case hp => exact (Reps.c2 (show Kd.M k27 _ _ _ (⟨xBL000_1, x7_3⟩ : S27) [.int .i64 xBL000_1, .int .i64 x7_3] from (k27_mkM _ _ _ (⟨xBL000_1, x7_3⟩ : S27) )) (Reps.none _ _)))
                  intro vC2 w63 ho64 hb hg_ hnew_
                  clear hg_ hnew_
                  (first | rw [← NyC1.out] at ho64 | (simp only [Int.reduceToNat] at ho64; rw [← NyC1.out] at ho64))
                  have n0_ := Am (Kd.N_elder' (by first | exact Kd.N_up HO_4.out | exact HO_4.out) (Kd.R_base ho64) hb)
                  have n1_ := Am (Kd.R_elder' (Kd.R_up HO_5.out) (Kd.R_base ho64) hb)
                  have n2_ := Am (Kd.N_elder' (by first | exact Kd.N_up HOBX.out | exact HOBX.out) (Kd.R_base ho64) hb)
                  have n3_ := Am (Kd.R_lower (Kd.R_newB (Kd.R_new' (Kd.R_newM (M := fun k_ => (w.heap.size ≤ k_)) ho64 (below_size belS) (fun k_ h_ => h_)) (Kd.R_lt (Kd.R_up HO_5.out))) (g := gbBO) (o := .cells #[.int .i64 xBL000_1, .int .i64 x7_3] 27 (0, 0)) (blk_up BKBO.out)) (below_size belS))
                  have n4_ := Am (blk_below (blk_up BKBD.out) hb)
                  have n5_ := Am (blk_below (blk_up BKBK.out) hb)
                  have n6_ := Am (blk_below (blk_up BKBO.out) hb)
                  have n7_ := Am (below_step belS hb)
                  clear HO_4
                  clear HO_5
                  clear HOBX
                  clear BKBD
                  clear BKBK
                  clear BKBO
                  clear HB
                  have HO_4 := n0_
                  have HO_5 := n1_
                  have HOBX := n2_
                  have HOC3 := n3_
                  have BKBD := n4_
                  have BKBK := n5_
                  have BKBO := n6_
                  have HB := n7_
                  clear n0_ n1_ n2_ n3_ n4_ n5_ n6_ n7_
                  clear hb ho64
                  obtain ⟨Ao66, co66, eo66⟩ := Kd.N_slice HOBX.out
                  (first | subst eo66 | (injection eo66 with f1_ f2_ f3_; have f4_ := f1_.symm; have f5_ := f3_.symm; clear f1_ f2_ f3_; subst f4_; subst f5_))
                  refine hK.out _ _ ⟨(blk_cell BKBD.out 0).trans rfl, (blk_cell BKBD.out 1).trans rfl, (blk_cell BKBD.out 2).trans rfl, (blk_cell BKBD.out 3).trans rfl, (blk_cell BKBO.out 0).trans rfl, (blk_cell BKBO.out 1).trans rfl⟩ (fun hHeld => ?_)
                  clear hK K
                  refine norm_ (a' := ?_) ?_ ?_
                  rotate_left
                  ·show Act.put _ (some 55) _ = _
                   simp only [Act.put, sA_, sB_, sC_, i64_w, i32_w]
                   rfl
                  refine one_ (i := 5) (N := some 52) bImplBoardLadders_0 rfl rfl (one_of HT_.out (by kernel_rfl)) (by decide) (fun K hK => ?_)
                  refine Kd.N_append_rows_step k32 (w0 := w) w.heap.size (by rfl) (.tmp 47) (.tmp 51) 96 32 (.agg #[(.int .i64 0), (.int .i64 0), (.int .i64 0), (.slice none 0 0)]) 48 rfl Try.underlying96 info32 rfl (by decide) (by omega) (.slice Ao55 x4_3.length co55) x4_3 yBV _ _ _ (fun k_ => (w.heap.size ≤ k_) ∧ some k_ ≠ (.slice Ao56 x5_3.length co56 : Value).ownBlock ∧ some k_ ≠ (vC2 : Value).ownBlock ∧ k_ ≠ gbBD ∧ k_ ≠ gbBK ∧ k_ ≠ gbBO) (fun k_ => ((fun k_ => (w.heap.size ≤ k_) ∧ some k_ ≠ (.slice Ao56 x5_3.length co56 : Value).ownBlock ∧ some k_ ≠ (vC2 : Value).ownBlock ∧ k_ ≠ gbBD ∧ k_ ≠ gbBK ∧ k_ ≠ gbBO)) k_ ∧ some k_ ≠ (.slice Ao55 x4_3.length co55 : Value).ownBlock) rfl rfl ?aO ?aR (fun _ hk => hk) ?aF ?aB ?aS ?aL ?_
                  (case aR => exact (by skip; exact Kd.N_F (Kd.N_mono (ok' := (fun k_ => ((fun k_ => (w.heap.size ≤ k_) ∧ some k_ ≠ (.slice Ao56 x5_3.length co56 : Value).ownBlock ∧ some k_ ≠ (vC2 : Value).ownBlock ∧ k_ ≠ gbBD ∧ k_ ≠ gbBK ∧ k_ ≠ gbBO)) k_ ∧ some k_ ≠ (.slice Ao55 x4_3.length co55 : Value).ownBlock)) (HOBX.out) (fun k_ hk => ⟨⟨hk.1.1, ⟨hk.1.2.2.1, ⟨hk.2, ⟨hk.1.2.2.2.1, ⟨hk.1.2.2.2.2.1, hk.1.2.2.2.2.2⟩⟩⟩⟩⟩, hk.1.2.1⟩))))
                  (case aB => exact belS)
                  (case aF => exact (fun k_ hk => ⟨(Nat.le_trans (below_size belS) hk), Kd.fresh' (Kd.R_lt (Kd.R_up HO_5.out)) k_ hk, Kd.fresh' (Kd.R_lt (Kd.R_up HOC3.out)) k_ hk, Kd.freshB (g := gbBD) (o := .cells #[.int .i64 a0_0, .int .i64 a0_1, .int .i64 a0_2, .slice A0_3 l0_3.length c0_3] 32 (0, 0)) (blk_up BKBD.out) k_ hk, Kd.freshB (g := gbBK) (o := .cells #[.int .i64 xBL000_1] 3 (0, 0)) (blk_up BKBK.out) k_ hk, Kd.freshB (g := gbBO) (o := .cells #[.int .i64 xBL000_1, .int .i64 x7_3] 27 (0, 0)) (blk_up BKBO.out) k_ hk⟩))
                  (case aO => exact (by (with_reducible repeat (first | apply Kd.N_alloc | apply Kd.N_drewN | apply Kd.N_drew)); exact Kd.N_mono HO_4.out (fun _ hk => ⟨hk.1.1.1.1, ⟨hk.1.1.1.2.1, ⟨hk.2, ⟨hk.1.1.1.2.2.1, ⟨hk.1.1.1.2.2.2.1, hk.1.1.1.2.2.2.2⟩⟩⟩⟩⟩)))
                  (case aS => exact (below_size belS))
                  (case aL => have := LMc45.out; omega)
                  intro vBZ w65 ho hb hg hat
                  rw [← NyBY.out] at ho
                  have n0_ := Am (Kd.R_over' (Kd.R_up HO_5.out) (Kd.N_typed (by first | exact Kd.N_up HO_4.out | exact HO_4.out)) (by decide) hg)
                  have n1_ := Am (blk_grown (g := gbBD) (o := .cells #[.int .i64 a0_0, .int .i64 a0_1, .int .i64 a0_2, .slice A0_3 l0_3.length c0_3] 32 (0, 0)) (blk_up BKBD.out) hg (Kd.N_away HO_4.out (fun _ hk => hk.1.1.1.2.2.1)))
                  have n2_ := Am (blk_grown (g := gbBK) (o := .cells #[.int .i64 xBL000_1] 3 (0, 0)) (blk_up BKBK.out) hg (Kd.N_ne HO_4.out BKBK.out (by decide)))
                  have n3_ := Am (blk_grown (g := gbBO) (o := .cells #[.int .i64 xBL000_1, .int .i64 x7_3] 27 (0, 0)) (blk_up BKBO.out) hg (Kd.N_ne HO_4.out BKBO.out (by decide)))
                  have n4_ := Am (Kd.N_afterv (ok := (fun k_ => (w.heap.size ≤ k_) ∧ some k_ ≠ (.slice Ao56 x5_3.length co56 : Value).ownBlock ∧ some k_ ≠ (vC2 : Value).ownBlock ∧ k_ ≠ gbBD ∧ k_ ≠ gbBK ∧ k_ ≠ gbBO)) (by (with_reducible repeat (first | apply Kd.N_alloc | apply Kd.N_drewN | apply Kd.N_drew)); exact Kd.N_mono HOBX.out (fun _ hk => ⟨⟨hk.1.1, ⟨hk.1.2.2.1, ⟨hk.2, ⟨hk.1.2.2.2.1, ⟨hk.1.2.2.2.2.1, hk.1.2.2.2.2.2⟩⟩⟩⟩⟩, hk.1.2.1⟩)) hg hat)
                  have n5_ := Am (Kd.R_over' (Kd.R_up HOC3.out) (Kd.N_typed (by first | exact Kd.N_up HO_4.out | exact HO_4.out)) (by decide) hg)
                  have n6_ := Am (hb)
                  have n7_ := Am (ho)
                  clear HO_5
                  clear BKBD
                  clear BKBK
                  clear BKBO
                  clear HOBX
                  clear HOC3
                  clear HB
                  clear HO_4
                  have HO_5 := n0_
                  have BKBD := n1_
                  have BKBK := n2_
                  have BKBO := n3_
                  have HOBX := n4_
                  have HOC3 := n5_
                  have HB := n6_
                  have HOC0 := n7_
                  clear n0_ n1_ n2_ n3_ n4_ n5_ n6_ n7_
                  clear ho hb hg hat
                  refine hK.out _ _ ⟨(blk_cell BKBD.out 0).trans rfl, (blk_cell BKBD.out 1).trans rfl, (blk_cell BKBD.out 2).trans rfl, (blk_cell BKBD.out 3).trans rfl, (blk_cell BKBO.out 0).trans rfl, (blk_cell BKBO.out 1).trans rfl⟩ (fun hHeld => ?_)
                  clear hK K
                  refine norm_ (a' := ?_) ?_ ?_
                  rotate_left
                  ·show Act.put _ (some 52) _ = _
                   simp only [Act.put, sA_, sB_, sC_, i64_w, i32_w]
                   rfl
                  exact norm_ (by simp only [putAll, Act.put, sA_, sB_, sC_]) (hCont (.slice Ao60 tBS.length co60, .slice Ao66 yBV.length co66, vBZ, vC2) _ ⟨hHeld, (by (with_reducible repeat (first | apply Kd.N_alloc | apply Kd.N_drewN | apply Kd.N_drew)); exact Kd.N_mono HOBX.out (fun _ hk => ⟨hk.1.1, ⟨hk.2, ⟨hk.1.2.2.1, ⟨hk.1.2.1, ⟨hk.1.2.2.2.1, ⟨hk.1.2.2.2.2.1, hk.1.2.2.2.2.2⟩⟩⟩⟩⟩⟩)), (by (with_reducible repeat (first | apply Kd.N_alloc | apply Kd.N_drewN | apply Kd.N_drew)); exact Kd.N_mono HOC0.out (fun _ hk => ⟨hk.1, ⟨hk.2.2.1, ⟨hk.2.1, ⟨hk.2.2.2.1, ⟨hk.2.2.2.2.1, hk.2.2.2.2.2⟩⟩⟩⟩⟩)), (by (with_reducible repeat (first | apply Kd.R_alloc | apply Kd.R_drewN | apply Kd.R_drew)); exact Kd.R_mono HOC3.out (fun _ hk => ⟨hk.1.1.1, ⟨hk.1.2, hk.2⟩⟩)), (by (with_reducible repeat (first | apply Kd.R_alloc | apply Kd.R_drewN | apply Kd.R_drew)); exact Kd.R_mono HO_5.out (fun _ hk => ⟨hk.1.1.1, ⟨hk.2, hk.1.1.2⟩⟩)), (blk_up BKBD.out), (blk_up BKBK.out), (blk_up BKBO.out), belS⟩)
                ·skip
                 refine Kd.R_lit_step k27 _ 27 ?hg (N := 55) ?hd (xs := ([(⟨xBL000_1, x7_3⟩ : S27)] : List (S27))) (inner := [.int .i64 xBL000_1, .int .i64 x7_3]) (ok := fun _ => True) (okp := fun _ => True) ?hr ?hp (fun _ hk => hk) trivial (Below.refl _ _) (Nat.le_refl _) (by simp) ?_; (case hd => rfl); (case hg => rfl); (case hr => first | (go_simp; done) | (go_simp; rfl)); (case hp => exact (Reps.c2 (show Kd.M k27 _ _ _ (⟨xBL000_1, x7_3⟩ : S27) [.int .i64 xBL000_1, .int .i64 x7_3] from (k27_mkM _ _ _ (⟨xBL000_1, x7_3⟩ : S27) )) (Reps.none _ _)))
                 intro vC2 w60 ho61 hb hg_ hnew_
                 clear hg_ hnew_
                 (first | rw [← NyC1.out] at ho61 | (simp only [Int.reduceToNat] at ho61; rw [← NyC1.out] at ho61))
                 have n0_ := Am (Kd.N_elder' (by first | exact Kd.N_up HO_4.out | exact HO_4.out) (Kd.R_base ho61) hb)
                 have n1_ := Am (Kd.R_elder' (Kd.R_up HO_5.out) (Kd.R_base ho61) hb)
                 have n2_ := Am (Kd.R_elder' (Kd.R_up HOBU.out) (Kd.R_base ho61) hb)
                 have n3_ := Am (Kd.R_lower (Kd.R_newB (Kd.R_new' (Kd.R_new' (Kd.R_newM (M := fun k_ => (w.heap.size ≤ k_)) ho61 (below_size belS) (fun k_ h_ => h_)) (Kd.R_lt (Kd.R_up HO_5.out))) (Kd.R_lt (Kd.R_up HOBU.out))) (g := gbBO) (o := .cells #[.int .i64 xBL000_1, .int .i64 x7_3] 27 (0, 0)) (blk_up BKBO.out)) (below_size belS))
                 have n4_ := Am (blk_below (blk_up BKBD.out) hb)
                 have n5_ := Am (blk_below (blk_up BKBK.out) hb)
                 have n6_ := Am (blk_below (blk_up BKBO.out) hb)
                 have n7_ := Am (below_step belS hb)
                 clear HO_4
                 clear HO_5
                 clear HOBU
                 clear BKBD
                 clear BKBK
                 clear BKBO
                 clear HB
                 have HO_4 := n0_
                 have HO_5 := n1_
                 have HOBU := n2_
                 have HOC3 := n3_
                 have BKBD := n4_
                 have BKBK := n5_
                 have BKBO := n6_
                 have HB := n7_
                 clear n0_ n1_ n2_ n3_ n4_ n5_ n6_ n7_
                 clear hb ho61
                 obtain ⟨Ao62, co62, eo62⟩ := Kd.R_slice HOBU.out
                 (first | subst eo62 | (injection eo62 with f1_ f2_ f3_; have f4_ := f1_.symm; have f5_ := f3_.symm; clear f1_ f2_ f3_; subst f4_; subst f5_))
                 refine hK.out _ _ ⟨(blk_cell BKBD.out 0).trans rfl, (blk_cell BKBD.out 1).trans rfl, (blk_cell BKBD.out 2).trans rfl, (blk_cell BKBD.out 3).trans rfl, (blk_cell BKBO.out 0).trans rfl, (blk_cell BKBO.out 1).trans rfl⟩ (fun hHeld => ?_)
                 clear hK K
                 refine norm_ (a' := ?_) ?_ ?_
                 rotate_left
                 ·show Act.put _ (some 55) _ = _
                  simp only [Act.put, sA_, sB_, sC_, i64_w, i32_w]
                  rfl
                 refine one_ (i := 4) (N := some 51) bImplBoardLadders_2 rfl rfl (one_of HT_.out (by kernel_rfl)) (by decide) (fun K hK => ?_)
                 refine Kd.N_lit_step k32 _ 32 ?hg (N' := 51) ?hd (xs := ([(⟨tBP, tBQ, tBR, tBS⟩ : S32)] : List (S32))) (inner := [.int .i64 tBP, .int .i64 tBQ, .int .i64 tBR, .slice Ao62 tBS.length co62]) (ok := (fun k_ => (w.heap.size ≤ k_) ∧ some k_ ≠ (.slice Ao55 x4_3.length co55 : Value).ownBlock ∧ some k_ ≠ (.slice Ao56 x5_3.length co56 : Value).ownBlock ∧ some k_ ≠ (vC2 : Value).ownBlock ∧ k_ ≠ gbBD ∧ k_ ≠ gbBK ∧ k_ ≠ gbBO)) (okp := (fun k_ => (w.heap.size ≤ k_) ∧ some k_ ≠ (.slice Ao55 x4_3.length co55 : Value).ownBlock ∧ some k_ ≠ (.slice Ao56 x5_3.length co56 : Value).ownBlock ∧ some k_ ≠ (vC2 : Value).ownBlock ∧ k_ ≠ gbBD ∧ k_ ≠ gbBK ∧ k_ ≠ gbBO)) ?hr ?hp (fun _ hk => hk) ((show ∀ k_, w60.heap.size ≤ k_ → (fun k_ => (w.heap.size ≤ k_) ∧ some k_ ≠ (.slice Ao55 x4_3.length co55 : Value).ownBlock ∧ some k_ ≠ (.slice Ao56 x5_3.length co56 : Value).ownBlock ∧ some k_ ≠ (vC2 : Value).ownBlock ∧ k_ ≠ gbBD ∧ k_ ≠ gbBK ∧ k_ ≠ gbBO) k_ from fun k_ hk => ⟨(Nat.le_trans (below_size belS) hk), Kd.fresh' (Kd.N_lt (by first | exact Kd.N_up HO_4.out | exact HO_4.out)) k_ hk, Kd.fresh' (Kd.R_lt (Kd.R_up HO_5.out)) k_ hk, Kd.fresh' (Kd.R_lt (Kd.R_up HOC3.out)) k_ hk, Kd.freshB (g := gbBD) (o := .cells #[.int .i64 a0_0, .int .i64 a0_1, .int .i64 a0_2, .slice A0_3 l0_3.length c0_3] 32 (0, 0)) (blk_up BKBD.out) k_ hk, Kd.freshB (g := gbBK) (o := .cells #[.int .i64 xBL000_1] 3 (0, 0)) (blk_up BKBK.out) k_ hk, Kd.freshB (g := gbBO) (o := .cells #[.int .i64 xBL000_1, .int .i64 x7_3] 27 (0, 0)) (blk_up BKBO.out) k_ hk⟩) _ (Nat.le_refl _)) (Below.refl _ _) (Nat.le_refl _) (by simp) ?_; (case hd => rfl); (case hg => rfl); (case hr => first | (go_simp; done) | (go_simp; rfl)); (case hp => exact (Reps.c4 (show Kd.FK k32 _ _ (⟨tBP, tBQ, tBR, tBS⟩ : S32) [.int .i64 tBP, .int .i64 tBQ, .int .i64 tBR, .slice Ao62 tBS.length co62] from (k32_mkF _ _ (⟨tBP, tBQ, tBR, tBS⟩ : S32) (Kd.R_reads' (Kd.R_mono (ok' := (fun k_ => (w.heap.size ≤ k_) ∧ some k_ ≠ (.slice Ao55 x4_3.length co55 : Value).ownBlock ∧ some k_ ≠ (.slice Ao56 x5_3.length co56 : Value).ownBlock ∧ some k_ ≠ (vC2 : Value).ownBlock ∧ k_ ≠ gbBD ∧ k_ ≠ gbBK ∧ k_ ≠ gbBO)) (Kd.R_types (Kd.R_types (Kd.R_apart' (HOBU.out) (Kd.N_typed HO_4.out) (by decide)) BKBD.out (by decide)) BKBK.out (by decide)) (fun k_ hk => ⟨hk.1.1.1.1.1.1.1, ⟨hk.1.1.2, ⟨hk.1.1.1.1.1.2, ⟨hk.1.1.1.2, ⟨hk.1.2, ⟨hk.2, hk.1.1.1.1.2⟩⟩⟩⟩⟩⟩))).2.1 (Kd.R_F (Kd.R_mono (ok' := (fun k_ => (w.heap.size ≤ k_) ∧ some k_ ≠ (.slice Ao55 x4_3.length co55 : Value).ownBlock ∧ some k_ ≠ (.slice Ao56 x5_3.length co56 : Value).ownBlock ∧ some k_ ≠ (vC2 : Value).ownBlock ∧ k_ ≠ gbBD ∧ k_ ≠ gbBK ∧ k_ ≠ gbBO)) (Kd.R_types (Kd.R_types (Kd.R_apart' (HOBU.out) (Kd.N_typed HO_4.out) (by decide)) BKBD.out (by decide)) BKBK.out (by decide)) (fun k_ hk => ⟨hk.1.1.1.1.1.1.1, ⟨hk.1.1.2, ⟨hk.1.1.1.1.1.2, ⟨hk.1.1.1.2, ⟨hk.1.2, ⟨hk.2, hk.1.1.1.1.2⟩⟩⟩⟩⟩⟩))))) (Reps.none _ _)))
                 intro vBW w63 ho64 hb hg_ hnew_
                 clear hg_ hnew_
                 (first | rw [← NyBV.out] at ho64 | (simp only [Int.reduceToNat] at ho64; rw [← NyBV.out] at ho64))
                 have n0_ := Am (Kd.N_elder' (by first | exact Kd.N_up HO_4.out | exact HO_4.out) (Kd.N_base ho64) hb)
                 have n1_ := Am (Kd.R_below (Kd.R_up HO_5.out) hb)
                 have n2_ := Am (Kd.R_below (Kd.R_up HOC3.out) hb)
                 have n3_ := Am (Kd.N_lower ho64 (below_size belS))
                 have n4_ := Am (blk_below (blk_up BKBD.out) hb)
                 have n5_ := Am (blk_below (blk_up BKBK.out) hb)
                 have n6_ := Am (blk_below (blk_up BKBO.out) hb)
                 have n7_ := Am (below_step belS hb)
                 clear HO_4
                 clear HO_5
                 clear HOC3
                 clear BKBD
                 clear BKBK
                 clear BKBO
                 clear HB
                 clear HOBU
                 have HO_4 := n0_
                 have HO_5 := n1_
                 have HOC3 := n2_
                 have HOBX := n3_
                 have BKBD := n4_
                 have BKBK := n5_
                 have BKBO := n6_
                 have HB := n7_
                 clear n0_ n1_ n2_ n3_ n4_ n5_ n6_ n7_
                 clear hb ho64
                 obtain ⟨Ao66, co66, eo66⟩ := Kd.N_slice HOBX.out
                 (first | subst eo66 | (injection eo66 with f1_ f2_ f3_; have f4_ := f1_.symm; have f5_ := f3_.symm; clear f1_ f2_ f3_; subst f4_; subst f5_))
                 refine hK.out _ _ ⟨(blk_cell BKBD.out 0).trans rfl, (blk_cell BKBD.out 1).trans rfl, (blk_cell BKBD.out 2).trans rfl, (blk_cell BKBD.out 3).trans rfl, (blk_cell BKBO.out 0).trans rfl, (blk_cell BKBO.out 1).trans rfl⟩ (fun hHeld => ?_)
                 clear hK K
                 refine norm_ (a' := ?_) ?_ ?_
                 rotate_left
                 ·show Act.put _ (some 51) _ = _
                  simp only [Act.put, sA_, sB_, sC_, i64_w, i32_w]
                  rfl
                 refine one_ (i := 5) (N := some 52) bImplBoardLadders_0 rfl rfl (one_of HT_.out (by kernel_rfl)) (by decide) (fun K hK => ?_)
                 refine Kd.N_append_rows_step k32 (w0 := w) w.heap.size (by rfl) (.tmp 47) (.tmp 51) 96 32 (.agg #[(.int .i64 0), (.int .i64 0), (.int .i64 0), (.slice none 0 0)]) 48 rfl Try.underlying96 info32 rfl (by decide) (by omega) (.slice Ao55 x4_3.length co55) x4_3 yBV _ _ _ (fun k_ => (w.heap.size ≤ k_) ∧ some k_ ≠ (.slice Ao56 x5_3.length co56 : Value).ownBlock ∧ some k_ ≠ (vC2 : Value).ownBlock ∧ k_ ≠ gbBD ∧ k_ ≠ gbBK ∧ k_ ≠ gbBO) (fun k_ => ((fun k_ => (w.heap.size ≤ k_) ∧ some k_ ≠ (.slice Ao56 x5_3.length co56 : Value).ownBlock ∧ some k_ ≠ (vC2 : Value).ownBlock ∧ k_ ≠ gbBD ∧ k_ ≠ gbBK ∧ k_ ≠ gbBO)) k_ ∧ some k_ ≠ (.slice Ao55 x4_3.length co55 : Value).ownBlock) rfl rfl ?aO ?aR (fun _ hk => hk) ?aF ?aB ?aS ?aL ?_
                 (case aR => exact (by skip; exact Kd.N_F (Kd.N_mono (ok' := (fun k_ => ((fun k_ => (w.heap.size ≤ k_) ∧ some k_ ≠ (.slice Ao56 x5_3.length co56 : Value).ownBlock ∧ some k_ ≠ (vC2 : Value).ownBlock ∧ k_ ≠ gbBD ∧ k_ ≠ gbBK ∧ k_ ≠ gbBO)) k_ ∧ some k_ ≠ (.slice Ao55 x4_3.length co55 : Value).ownBlock)) (HOBX.out) (fun k_ hk => ⟨⟨hk.1, ⟨hk.2.2.1, ⟨hk.2.2.2.1, ⟨hk.2.2.2.2.1, ⟨hk.2.2.2.2.2.1, hk.2.2.2.2.2.2⟩⟩⟩⟩⟩, hk.2.1⟩))))
                 (case aB => exact belS)
                 (case aF => exact (fun k_ hk => ⟨(Nat.le_trans (below_size belS) hk), Kd.fresh' (Kd.R_lt (Kd.R_up HO_5.out)) k_ hk, Kd.fresh' (Kd.R_lt (Kd.R_up HOC3.out)) k_ hk, Kd.freshB (g := gbBD) (o := .cells #[.int .i64 a0_0, .int .i64 a0_1, .int .i64 a0_2, .slice A0_3 l0_3.length c0_3] 32 (0, 0)) (blk_up BKBD.out) k_ hk, Kd.freshB (g := gbBK) (o := .cells #[.int .i64 xBL000_1] 3 (0, 0)) (blk_up BKBK.out) k_ hk, Kd.freshB (g := gbBO) (o := .cells #[.int .i64 xBL000_1, .int .i64 x7_3] 27 (0, 0)) (blk_up BKBO.out) k_ hk⟩))
                 (case aO => exact (by (with_reducible repeat (first | apply Kd.N_alloc | apply Kd.N_drewN | apply Kd.N_drew)); exact Kd.N_mono HO_4.out (fun _ hk => ⟨hk.1.1.1.1, ⟨hk.1.1.1.2.1, ⟨hk.1.2, ⟨hk.1.1.1.2.2.1, ⟨hk.1.1.1.2.2.2.1, hk.1.1.1.2.2.2.2⟩⟩⟩⟩⟩)))
                 (case aS => exact (below_size belS))
                 (case aL => have := LMc45.out; omega)
                 intro vBZ w65 ho hb hg hat
                 rw [← NyBY.out] at ho
                 have n0_ := Am (Kd.R_over' (Kd.R_up HO_5.out) (Kd.N_typed (by first | exact Kd.N_up HO_4.out | exact HO_4.out)) (by decide) hg)
                 have n1_ := Am (blk_grown (g := gbBD) (o := .cells #[.int .i64 a0_0, .int .i64 a0_1, .int .i64 a0_2, .slice A0_3 l0_3.length c0_3] 32 (0, 0)) (blk_up BKBD.out) hg (Kd.N_away HO_4.out (fun _ hk => hk.1.1.1.2.2.1)))
                 have n2_ := Am (blk_grown (g := gbBK) (o := .cells #[.int .i64 xBL000_1] 3 (0, 0)) (blk_up BKBK.out) hg (Kd.N_ne HO_4.out BKBK.out (by decide)))
                 have n3_ := Am (blk_grown (g := gbBO) (o := .cells #[.int .i64 xBL000_1, .int .i64 x7_3] 27 (0, 0)) (blk_up BKBO.out) hg (Kd.N_ne HO_4.out BKBO.out (by decide)))
                 have n4_ := Am (Kd.R_over' (Kd.R_up HOC3.out) (Kd.N_typed (by first | exact Kd.N_up HO_4.out | exact HO_4.out)) (by decide) hg)
                 have n5_ := Am (Kd.N_afterv (ok := (fun k_ => (w.heap.size ≤ k_) ∧ some k_ ≠ (.slice Ao56 x5_3.length co56 : Value).ownBlock ∧ some k_ ≠ (vC2 : Value).ownBlock ∧ k_ ≠ gbBD ∧ k_ ≠ gbBK ∧ k_ ≠ gbBO)) (by (with_reducible repeat (first | apply Kd.N_alloc | apply Kd.N_drewN | apply Kd.N_drew)); exact Kd.N_mono HOBX.out (fun _ hk => ⟨⟨hk.1, ⟨hk.2.2.1, ⟨hk.2.2.2.1, ⟨hk.2.2.2.2.1, ⟨hk.2.2.2.2.2.1, hk.2.2.2.2.2.2⟩⟩⟩⟩⟩, hk.2.1⟩)) hg hat)
                 have n6_ := Am (hb)
                 have n7_ := Am (ho)
                 clear HO_5
                 clear BKBD
                 clear BKBK
                 clear BKBO
                 clear HOC3
                 clear HOBX
                 clear HB
                 clear HO_4
                 have HO_5 := n0_
                 have BKBD := n1_
                 have BKBK := n2_
                 have BKBO := n3_
                 have HOC3 := n4_
                 have HOBX := n5_
                 have HB := n6_
                 have HOC0 := n7_
                 clear n0_ n1_ n2_ n3_ n4_ n5_ n6_ n7_
                 clear ho hb hg hat
                 refine hK.out _ _ ⟨(blk_cell BKBD.out 0).trans rfl, (blk_cell BKBD.out 1).trans rfl, (blk_cell BKBD.out 2).trans rfl, (blk_cell BKBD.out 3).trans rfl, (blk_cell BKBO.out 0).trans rfl, (blk_cell BKBO.out 1).trans rfl⟩ (fun hHeld => ?_)
                 clear hK K
                 refine norm_ (a' := ?_) ?_ ?_
                 rotate_left
                 ·show Act.put _ (some 52) _ = _
                  simp only [Act.put, sA_, sB_, sC_, i64_w, i32_w]
                  rfl
                 exact norm_ (by simp only [putAll, Act.put, sA_, sB_, sC_]) (hCont (.slice Ao62 tBS.length co62, .slice Ao66 yBV.length co66, vBZ, vC2) _ ⟨hHeld, (by (with_reducible repeat (first | apply Kd.N_alloc | apply Kd.N_drewN | apply Kd.N_drew)); exact Kd.N_mono HOBX.out (fun _ hk => ⟨hk.1.1, ⟨hk.2, ⟨hk.1.2.2.1, ⟨hk.1.2.1, ⟨hk.1.2.2.2.1, ⟨hk.1.2.2.2.2.1, hk.1.2.2.2.2.2⟩⟩⟩⟩⟩⟩)), (by (with_reducible repeat (first | apply Kd.N_alloc | apply Kd.N_drewN | apply Kd.N_drew)); exact Kd.N_mono HOC0.out (fun _ hk => ⟨hk.1, ⟨hk.2.2.1, ⟨hk.2.1, ⟨hk.2.2.2.1, ⟨hk.2.2.2.2.1, hk.2.2.2.2.2⟩⟩⟩⟩⟩)), (by (with_reducible repeat (first | apply Kd.R_alloc | apply Kd.R_drewN | apply Kd.R_drew)); exact Kd.R_mono HOC3.out (fun _ hk => ⟨hk.1.1.1.1, ⟨hk.1.1.2, hk.2⟩⟩)), (by (with_reducible repeat (first | apply Kd.R_alloc | apply Kd.R_drewN | apply Kd.R_drew)); exact Kd.R_mono HO_5.out (fun _ hk => ⟨hk.1.1.1, ⟨hk.2, hk.1.1.2⟩⟩)), (blk_up BKBD.out), (blk_up BKBK.out), (blk_up BKBO.out), belS⟩)
               ·skip
                refine Kd.R_lit_step k27 _ 27 ?hg (N := 55) ?hd (xs := ([(⟨xBL000_1, x7_3⟩ : S27)] : List (S27))) (inner := [.int .i64 xBL000_1, .int .i64 x7_3]) (ok := fun _ => True) (okp := fun _ => True) ?hr ?hp (fun _ hk => hk) trivial (Below.refl _ _) (Nat.le_refl _) (by simp) ?_; (case hd => rfl); (case hg => rfl); (case hr => first | (go_simp; done) | (go_simp; rfl)); (case hp => exact (Reps.c2 (show Kd.M k27 _ _ _ (⟨xBL000_1, x7_3⟩ : S27) [.int .i64 xBL000_1, .int .i64 x7_3] from (k27_mkM _ _ _ (⟨xBL000_1, x7_3⟩ : S27) )) (Reps.none _ _)))
                intro vC2 w59 ho60 hb hg_ hnew_
                clear hg_ hnew_
                (first | rw [← NyC1.out] at ho60 | (simp only [Int.reduceToNat] at ho60; rw [← NyC1.out] at ho60))
                have n0_ := Am (Kd.N_elder' (by first | exact Kd.N_up HO_4.out | exact HO_4.out) (Kd.R_base ho60) hb)
                have n1_ := Am (Kd.R_elder' (Kd.R_up HO_5.out) (Kd.R_base ho60) hb)
                have n2_ := Am (Kd.R_lower (Kd.R_newB (Kd.R_new' (Kd.R_newM (M := fun k_ => (w.heap.size ≤ k_)) ho60 (below_size belS) (fun k_ h_ => h_)) (Kd.R_lt (Kd.R_up HO_5.out))) (g := gbBO) (o := .cells #[.int .i64 xBL000_1, .int .i64 x7_3] 27 (0, 0)) (blk_up BKBO.out)) (below_size belS))
                have n3_ := Am (blk_below (blk_up BKBD.out) hb)
                have n4_ := Am (blk_below (blk_up BKBK.out) hb)
                have n5_ := Am (blk_below (blk_up BKBO.out) hb)
                have n6_ := Am (below_step belS hb)
                clear HO_4
                clear HO_5
                clear BKBD
                clear BKBK
                clear BKBO
                clear HB
                have HO_4 := n0_
                have HO_5 := n1_
                have HOC3 := n2_
                have BKBD := n3_
                have BKBK := n4_
                have BKBO := n5_
                have HB := n6_
                clear n0_ n1_ n2_ n3_ n4_ n5_ n6_
                clear hb ho60
                refine hK.out _ _ ⟨(blk_cell BKBD.out 0).trans rfl, (blk_cell BKBD.out 1).trans rfl, (blk_cell BKBD.out 2).trans rfl, (blk_cell BKBD.out 3).trans rfl, (blk_cell BKBO.out 0).trans rfl, (blk_cell BKBO.out 1).trans rfl⟩ (fun hHeld => ?_)
                clear hK K
                refine norm_ (a' := ?_) ?_ ?_
                rotate_left
                ·show Act.put _ (some 55) _ = _
                 simp only [Act.put, sA_, sB_, sC_, i64_w, i32_w]
                 rfl
                refine one_ (i := 3) (N := some 50) bImplBoardLadders_1 rfl rfl (one_of HT_.out (by kernel_rfl)) (by decide) (fun K hK => ?_)
                refine goes_ Try.func179 (by kernel_rfl) rfl #[.agg #[.int .i64 a0_0, .int .i64 a0_1, .int .i64 a0_2, .slice A0_3 l0_3.length c0_3], .agg #[.int .i64 xBL000_1, .int .i64 x7_3]] (by rfl) rfl rfl argS ?_
                with_reducible refine (impl_Board_added.calls k3 a0_0 a0_1 a0_2 _ _ l0_3 xBL000_1 x7_3 tBP tBQ tBR tBS _ ?side1 ?side2 A44.out).mono ?_
                (case side1 => exact Kd.C_up (Kd.C_below HR0_3.out HB.out))
                (case side2 => exact HC0_3.out)
                rintro e w61 ⟨vBT, rfl, ho0, hb⟩
                refine ⟨_, rfl, ?_⟩
                have n0_ := Am (Kd.N_elder' (by first | exact Kd.N_up HO_4.out | exact HO_4.out) (Kd.R_base ho0) hb)
                have n1_ := Am (Kd.R_elder' (Kd.R_up HO_5.out) (Kd.R_base ho0) hb)
                have n2_ := Am (Kd.R_elder' (Kd.R_up HOC3.out) (Kd.R_base ho0) hb)
                have n3_ := Am (Kd.R_lower (Kd.R_newB (Kd.R_new' (Kd.R_new' (Kd.R_newM (M := fun k_ => (w.heap.size ≤ k_)) ho0 (below_size belS) (fun k_ h_ => h_)) (Kd.R_lt (Kd.R_up HO_5.out))) (Kd.R_lt (Kd.R_up HOC3.out))) (g := gbBO) (o := .cells #[.int .i64 xBL000_1, .int .i64 x7_3] 27 (0, 0)) (blk_up BKBO.out)) (below_size belS))
                have n4_ := Am (blk_below (blk_up BKBD.out) hb)
                have n5_ := Am (blk_below (blk_up BKBK.out) hb)
                have n6_ := Am (blk_below (blk_up BKBO.out) hb)
                have n7_ := Am (below_step belS hb)
                clear HO_4
                clear HO_5
                clear HOC3
                clear BKBD
                clear BKBK
                clear BKBO
                clear HB
                have HO_4 := n0_
                have HO_5 := n1_
                have HOC3 := n2_
                have HOBU := n3_
                have BKBD := n4_
                have BKBK := n5_
                have BKBO := n6_
                have HB := n7_
                clear n0_ n1_ n2_ n3_ n4_ n5_ n6_ n7_
                (try clear hb)
                (try clear hb2)
                (try clear hk)
                (try clear hi)
                (try clear ho0)
                obtain ⟨Ao62, co62, eo62⟩ := Kd.R_slice HOBU.out
                (first | subst eo62 | (injection eo62 with f1_ f2_ f3_; have f4_ := f1_.symm; have f5_ := f3_.symm; clear f1_ f2_ f3_; subst f4_; subst f5_))
                refine hK.out _ _ ⟨(blk_cell BKBD.out 0).trans rfl, (blk_cell BKBD.out 1).trans rfl, (blk_cell BKBD.out 2).trans rfl, (blk_cell BKBD.out 3).trans rfl, (blk_cell BKBO.out 0).trans rfl, (blk_cell BKBO.out 1).trans rfl⟩ (fun hHeld => ?_)
                clear hK K
                refine norm_ (a' := ?_) ?_ ?_
                rotate_left
                ·show Act.put _ (some 50) _ = _
                 simp only [Act.put, sA_, sB_, sC_, i64_w, i32_w]
                 rfl
                refine one_ (i := 4) (N := some 51) bImplBoardLadders_2 rfl rfl (one_of HT_.out (by kernel_rfl)) (by decide) (fun K hK => ?_)
                refine Kd.N_lit_step k32 _ 32 ?hg (N' := 51) ?hd (xs := ([(⟨tBP, tBQ, tBR, tBS⟩ : S32)] : List (S32))) (inner := [.int .i64 tBP, .int .i64 tBQ, .int .i64 tBR, .slice Ao62 tBS.length co62]) (ok := (fun k_ => (w.heap.size ≤ k_) ∧ some k_ ≠ (.slice Ao55 x4_3.length co55 : Value).ownBlock ∧ some k_ ≠ (.slice Ao56 x5_3.length co56 : Value).ownBlock ∧ some k_ ≠ (vC2 : Value).ownBlock ∧ k_ ≠ gbBD ∧ k_ ≠ gbBK ∧ k_ ≠ gbBO)) (okp := (fun k_ => (w.heap.size ≤ k_) ∧ some k_ ≠ (.slice Ao55 x4_3.length co55 : Value).ownBlock ∧ some k_ ≠ (.slice Ao56 x5_3.length co56 : Value).ownBlock ∧ some k_ ≠ (vC2 : Value).ownBlock ∧ k_ ≠ gbBD ∧ k_ ≠ gbBK ∧ k_ ≠ gbBO)) ?hr ?hp (fun _ hk => hk) ((show ∀ k_, w61.heap.size ≤ k_ → (fun k_ => (w.heap.size ≤ k_) ∧ some k_ ≠ (.slice Ao55 x4_3.length co55 : Value).ownBlock ∧ some k_ ≠ (.slice Ao56 x5_3.length co56 : Value).ownBlock ∧ some k_ ≠ (vC2 : Value).ownBlock ∧ k_ ≠ gbBD ∧ k_ ≠ gbBK ∧ k_ ≠ gbBO) k_ from fun k_ hk => ⟨(Nat.le_trans (below_size belS) hk), Kd.fresh' (Kd.N_lt (by first | exact Kd.N_up HO_4.out | exact HO_4.out)) k_ hk, Kd.fresh' (Kd.R_lt (Kd.R_up HO_5.out)) k_ hk, Kd.fresh' (Kd.R_lt (Kd.R_up HOC3.out)) k_ hk, Kd.freshB (g := gbBD) (o := .cells #[.int .i64 a0_0, .int .i64 a0_1, .int .i64 a0_2, .slice A0_3 l0_3.length c0_3] 32 (0, 0)) (blk_up BKBD.out) k_ hk, Kd.freshB (g := gbBK) (o := .cells #[.int .i64 xBL000_1] 3 (0, 0)) (blk_up BKBK.out) k_ hk, Kd.freshB (g := gbBO) (o := .cells #[.int .i64 xBL000_1, .int .i64 x7_3] 27 (0, 0)) (blk_up BKBO.out) k_ hk⟩) _ (Nat.le_refl _)) (Below.refl _ _) (Nat.le_refl _) (by simp) ?_; (case hd => rfl); (case hg => rfl); (case hr => first | (go_simp; done) | (go_simp; rfl)); (case hp => exact (Reps.c4 (show Kd.FK k32 _ _ (⟨tBP, tBQ, tBR, tBS⟩ : S32) [.int .i64 tBP, .int .i64 tBQ, .int .i64 tBR, .slice Ao62 tBS.length co62] from (k32_mkF _ _ (⟨tBP, tBQ, tBR, tBS⟩ : S32) (Kd.R_reads' (Kd.R_mono (ok' := (fun k_ => (w.heap.size ≤ k_) ∧ some k_ ≠ (.slice Ao55 x4_3.length co55 : Value).ownBlock ∧ some k_ ≠ (.slice Ao56 x5_3.length co56 : Value).ownBlock ∧ some k_ ≠ (vC2 : Value).ownBlock ∧ k_ ≠ gbBD ∧ k_ ≠ gbBK ∧ k_ ≠ gbBO)) (Kd.R_types (Kd.R_types (Kd.R_apart' (HOBU.out) (Kd.N_typed HO_4.out) (by decide)) BKBD.out (by decide)) BKBK.out (by decide)) (fun k_ hk => ⟨hk.1.1.1.1.1.1.1, ⟨hk.1.1.2, ⟨hk.1.1.1.1.1.2, ⟨hk.1.1.1.1.2, ⟨hk.1.2, ⟨hk.2, hk.1.1.1.2⟩⟩⟩⟩⟩⟩))).2.1 (Kd.R_F (Kd.R_mono (ok' := (fun k_ => (w.heap.size ≤ k_) ∧ some k_ ≠ (.slice Ao55 x4_3.length co55 : Value).ownBlock ∧ some k_ ≠ (.slice Ao56 x5_3.length co56 : Value).ownBlock ∧ some k_ ≠ (vC2 : Value).ownBlock ∧ k_ ≠ gbBD ∧ k_ ≠ gbBK ∧ k_ ≠ gbBO)) (Kd.R_types (Kd.R_types (Kd.R_apart' (HOBU.out) (Kd.N_typed HO_4.out) (by decide)) BKBD.out (by decide)) BKBK.out (by decide)) (fun k_ hk => ⟨hk.1.1.1.1.1.1.1, ⟨hk.1.1.2, ⟨hk.1.1.1.1.1.2, ⟨hk.1.1.1.1.2, ⟨hk.1.2, ⟨hk.2, hk.1.1.1.2⟩⟩⟩⟩⟩⟩))))) (Reps.none _ _)))
                intro vBW w63 ho64 hb hg_ hnew_
                clear hg_ hnew_
                (first | rw [← NyBV.out] at ho64 | (simp only [Int.reduceToNat] at ho64; rw [← NyBV.out] at ho64))
                have n0_ := Am (Kd.N_elder' (by first | exact Kd.N_up HO_4.out | exact HO_4.out) (Kd.N_base ho64) hb)
                have n1_ := Am (Kd.R_below (Kd.R_up HO_5.out) hb)
                have n2_ := Am (Kd.R_below (Kd.R_up HOC3.out) hb)
                have n3_ := Am (Kd.N_lower ho64 (below_size belS))
                have n4_ := Am (blk_below (blk_up BKBD.out) hb)
                have n5_ := Am (blk_below (blk_up BKBK.out) hb)
                have n6_ := Am (blk_below (blk_up BKBO.out) hb)
                have n7_ := Am (below_step belS hb)
                clear HO_4
                clear HO_5
                clear HOC3
                clear BKBD
                clear BKBK
                clear BKBO
                clear HB
                clear HOBU
                have HO_4 := n0_
                have HO_5 := n1_
                have HOC3 := n2_
                have HOBX := n3_
                have BKBD := n4_
                have BKBK := n5_
                have BKBO := n6_
                have HB := n7_
                clear n0_ n1_ n2_ n3_ n4_ n5_ n6_ n7_
                clear hb ho64
                obtain ⟨Ao66, co66, eo66⟩ := Kd.N_slice HOBX.out
                (first | subst eo66 | (injection eo66 with f1_ f2_ f3_; have f4_ := f1_.symm; have f5_ := f3_.symm; clear f1_ f2_ f3_; subst f4_; subst f5_))
                refine hK.out _ _ ⟨(blk_cell BKBD.out 0).trans rfl, (blk_cell BKBD.out 1).trans rfl, (blk_cell BKBD.out 2).trans rfl, (blk_cell BKBD.out 3).trans rfl, (blk_cell BKBO.out 0).trans rfl, (blk_cell BKBO.out 1).trans rfl⟩ (fun hHeld => ?_)
                clear hK K
                refine norm_ (a' := ?_) ?_ ?_
                rotate_left
                ·show Act.put _ (some 51) _ = _
                 simp only [Act.put, sA_, sB_, sC_, i64_w, i32_w]
                 rfl
                refine one_ (i := 5) (N := some 52) bImplBoardLadders_0 rfl rfl (one_of HT_.out (by kernel_rfl)) (by decide) (fun K hK => ?_)
                refine Kd.N_append_rows_step k32 (w0 := w) w.heap.size (by rfl) (.tmp 47) (.tmp 51) 96 32 (.agg #[(.int .i64 0), (.int .i64 0), (.int .i64 0), (.slice none 0 0)]) 48 rfl Try.underlying96 info32 rfl (by decide) (by omega) (.slice Ao55 x4_3.length co55) x4_3 yBV _ _ _ (fun k_ => (w.heap.size ≤ k_) ∧ some k_ ≠ (.slice Ao56 x5_3.length co56 : Value).ownBlock ∧ some k_ ≠ (vC2 : Value).ownBlock ∧ k_ ≠ gbBD ∧ k_ ≠ gbBK ∧ k_ ≠ gbBO) (fun k_ => ((fun k_ => (w.heap.size ≤ k_) ∧ some k_ ≠ (.slice Ao56 x5_3.length co56 : Value).ownBlock ∧ some k_ ≠ (vC2 : Value).ownBlock ∧ k_ ≠ gbBD ∧ k_ ≠ gbBK ∧ k_ ≠ gbBO)) k_ ∧ some k_ ≠ (.slice Ao55 x4_3.length co55 : Value).ownBlock) rfl rfl ?aO ?aR (fun _ hk => hk) ?aF ?aB ?aS ?aL ?_
                (case aR => exact (by skip; exact Kd.N_F (Kd.N_mono (ok' := (fun k_ => ((fun k_ => (w.heap.size ≤ k_) ∧ some k_ ≠ (.slice Ao56 x5_3.length co56 : Value).ownBlock ∧ some k_ ≠ (vC2 : Value).ownBlock ∧ k_ ≠ gbBD ∧ k_ ≠ gbBK ∧ k_ ≠ gbBO)) k_ ∧ some k_ ≠ (.slice Ao55 x4_3.length co55 : Value).ownBlock)) (HOBX.out) (fun k_ hk => ⟨⟨hk.1, ⟨hk.2.2.1, ⟨hk.2.2.2.1, ⟨hk.2.2.2.2.1, ⟨hk.2.2.2.2.2.1, hk.2.2.2.2.2.2⟩⟩⟩⟩⟩, hk.2.1⟩))))
                (case aB => exact belS)
                (case aF => exact (fun k_ hk => ⟨(Nat.le_trans (below_size belS) hk), Kd.fresh' (Kd.R_lt (Kd.R_up HO_5.out)) k_ hk, Kd.fresh' (Kd.R_lt (Kd.R_up HOC3.out)) k_ hk, Kd.freshB (g := gbBD) (o := .cells #[.int .i64 a0_0, .int .i64 a0_1, .int .i64 a0_2, .slice A0_3 l0_3.length c0_3] 32 (0, 0)) (blk_up BKBD.out) k_ hk, Kd.freshB (g := gbBK) (o := .cells #[.int .i64 xBL000_1] 3 (0, 0)) (blk_up BKBK.out) k_ hk, Kd.freshB (g := gbBO) (o := .cells #[.int .i64 xBL000_1, .int .i64 x7_3] 27 (0, 0)) (blk_up BKBO.out) k_ hk⟩))
                (case aO => exact (by (with_reducible repeat (first | apply Kd.N_alloc | apply Kd.N_drewN | apply Kd.N_drew)); exact Kd.N_mono HO_4.out (fun _ hk => ⟨hk.1.1.1.1, ⟨hk.1.1.1.2.1, ⟨hk.1.1.2, ⟨hk.1.1.1.2.2.1, ⟨hk.1.1.1.2.2.2.1, hk.1.1.1.2.2.2.2⟩⟩⟩⟩⟩)))
                (case aS => exact (below_size belS))
                (case aL => have := LMc45.out; omega)
                intro vBZ w65 ho hb hg hat
                rw [← NyBY.out] at ho
                have n0_ := Am (Kd.R_over' (Kd.R_up HO_5.out) (Kd.N_typed (by first | exact Kd.N_up HO_4.out | exact HO_4.out)) (by decide) hg)
                have n1_ := Am (blk_grown (g := gbBD) (o := .cells #[.int .i64 a0_0, .int .i64 a0_1, .int .i64 a0_2, .slice A0_3 l0_3.length c0_3] 32 (0, 0)) (blk_up BKBD.out) hg (Kd.N_away HO_4.out (fun _ hk => hk.1.1.1.2.2.1)))
                have n2_ := Am (blk_grown (g := gbBK) (o := .cells #[.int .i64 xBL000_1] 3 (0, 0)) (blk_up BKBK.out) hg (Kd.N_ne HO_4.out BKBK.out (by decide)))
                have n3_ := Am (blk_grown (g := gbBO) (o := .cells #[.int .i64 xBL000_1, .int .i64 x7_3] 27 (0, 0)) (blk_up BKBO.out) hg (Kd.N_ne HO_4.out BKBO.out (by decide)))
                have n4_ := Am (Kd.R_over' (Kd.R_up HOC3.out) (Kd.N_typed (by first | exact Kd.N_up HO_4.out | exact HO_4.out)) (by decide) hg)
                have n5_ := Am (Kd.N_afterv (ok := (fun k_ => (w.heap.size ≤ k_) ∧ some k_ ≠ (.slice Ao56 x5_3.length co56 : Value).ownBlock ∧ some k_ ≠ (vC2 : Value).ownBlock ∧ k_ ≠ gbBD ∧ k_ ≠ gbBK ∧ k_ ≠ gbBO)) (by (with_reducible repeat (first | apply Kd.N_alloc | apply Kd.N_drewN | apply Kd.N_drew)); exact Kd.N_mono HOBX.out (fun _ hk => ⟨⟨hk.1, ⟨hk.2.2.1, ⟨hk.2.2.2.1, ⟨hk.2.2.2.2.1, ⟨hk.2.2.2.2.2.1, hk.2.2.2.2.2.2⟩⟩⟩⟩⟩, hk.2.1⟩)) hg hat)
                have n6_ := Am (hb)
                have n7_ := Am (ho)
                clear HO_5
                clear BKBD
                clear BKBK
                clear BKBO
                clear HOC3
                clear HOBX
                clear HB
                clear HO_4
                have HO_5 := n0_
                have BKBD := n1_
                have BKBK := n2_
                have BKBO := n3_
                have HOC3 := n4_
                have HOBX := n5_
                have HB := n6_
                have HOC0 := n7_
                clear n0_ n1_ n2_ n3_ n4_ n5_ n6_ n7_
                clear ho hb hg hat
                refine hK.out _ _ ⟨(blk_cell BKBD.out 0).trans rfl, (blk_cell BKBD.out 1).trans rfl, (blk_cell BKBD.out 2).trans rfl, (blk_cell BKBD.out 3).trans rfl, (blk_cell BKBO.out 0).trans rfl, (blk_cell BKBO.out 1).trans rfl⟩ (fun hHeld => ?_)
                clear hK K
                refine norm_ (a' := ?_) ?_ ?_
                rotate_left
                ·show Act.put _ (some 52) _ = _
                 simp only [Act.put, sA_, sB_, sC_, i64_w, i32_w]
                 rfl
                exact norm_ (by simp only [putAll, Act.put, sA_, sB_, sC_]) (hCont (.slice Ao62 tBS.length co62, .slice Ao66 yBV.length co66, vBZ, vC2) _ ⟨hHeld, (by (with_reducible repeat (first | apply Kd.N_alloc | apply Kd.N_drewN | apply Kd.N_drew)); exact Kd.N_mono HOBX.out (fun _ hk => ⟨hk.1.1, ⟨hk.2, ⟨hk.1.2.2.1, ⟨hk.1.2.1, ⟨hk.1.2.2.2.1, ⟨hk.1.2.2.2.2.1, hk.1.2.2.2.2.2⟩⟩⟩⟩⟩⟩)), (by (with_reducible repeat (first | apply Kd.N_alloc | apply Kd.N_drewN | apply Kd.N_drew)); exact Kd.N_mono HOC0.out (fun _ hk => ⟨hk.1, ⟨hk.2.2.1, ⟨hk.2.1, ⟨hk.2.2.2.1, ⟨hk.2.2.2.2.1, hk.2.2.2.2.2⟩⟩⟩⟩⟩)), (by (with_reducible repeat (first | apply Kd.R_alloc | apply Kd.R_drewN | apply Kd.R_drew)); exact Kd.R_mono HOC3.out (fun _ hk => ⟨hk.1.1.1.1, ⟨hk.1.1.2, hk.1.2⟩⟩)), (by (with_reducible repeat (first | apply Kd.R_alloc | apply Kd.R_drewN | apply Kd.R_drew)); exact Kd.R_mono HO_5.out (fun _ hk => ⟨hk.1.1.1, ⟨hk.1.2, hk.1.1.2⟩⟩)), (blk_up BKBD.out), (blk_up BKBK.out), (blk_up BKBO.out), belS⟩)
              rintro ⟨vBT, vBW, vBZ, vC2⟩ w67 ⟨hS_, h0_, h1_, h2_, h3_, h4_, h5_, h6_, h7_⟩
              have n0_ : Aside0 (Kd.N k32 32 w67 w.heap.size (fun k_ => (w.heap.size ≤ k_) ∧ some k_ ≠ (vBZ : Value).ownBlock ∧ some k_ ≠ (vC2 : Value).ownBlock ∧ some k_ ≠ (.slice Ao56 x5_3.length co56 : Value).ownBlock ∧ k_ ≠ gbBD ∧ k_ ≠ gbBK ∧ k_ ≠ gbBO) vBW yBV) := ⟨h0_⟩
              have n1_ : Aside0 (Kd.N k32 32 w67 w.heap.size (fun k_ => (w.heap.size ≤ k_) ∧ some k_ ≠ (vC2 : Value).ownBlock ∧ some k_ ≠ (.slice Ao56 x5_3.length co56 : Value).ownBlock ∧ k_ ≠ gbBD ∧ k_ ≠ gbBK ∧ k_ ≠ gbBO) vBZ yBY) := ⟨h1_⟩
              have n2_ : Aside0 (Kd.R k27 27 w67 w.heap.size (fun k_ => (w.heap.size ≤ k_) ∧ some k_ ≠ (.slice Ao56 x5_3.length co56 : Value).ownBlock ∧ k_ ≠ gbBO) vC2 yC1) := ⟨h2_⟩
              have n3_ : Aside0 (Kd.R k27 27 w67 w.heap.size (fun k_ => (w.heap.size ≤ k_) ∧ some k_ ≠ (vC2 : Value).ownBlock ∧ k_ ≠ gbBO) (.slice Ao56 x5_3.length co56) x5_3) := ⟨h3_⟩
              have n4_ : Aside0 (w67.heap[gbBD]? = some (.cells #[.int .i64 a0_0, .int .i64 a0_1, .int .i64 a0_2, .slice A0_3 l0_3.length c0_3] 32 (0, 0))) := ⟨h4_⟩
              have n5_ : Aside0 (w67.heap[gbBK]? = some (.cells #[.int .i64 xBL000_1] 3 (0, 0))) := ⟨h5_⟩
              have n6_ : Aside0 (w67.heap[gbBO]? = some (.cells #[.int .i64 xBL000_1, .int .i64 x7_3] 27 (0, 0))) := ⟨h6_⟩
              have n7_ : Aside0 (Below w.heap.size w w67) := ⟨h7_⟩
              clear HO_4
              clear HO_5
              clear BKBD
              clear BKBK
              clear BKBO
              clear HB
              clear h0_ h1_ h2_ h3_ h4_ h5_ h6_ h7_
              have HOBX := n0_
              have HOC0 := n1_
              have HOC3 := n2_
              have HO_5 := n3_
              have BKBD := n4_
              have BKBK := n5_
              have BKBO := n6_
              have HB := n7_
              clear n0_ n1_ n2_ n3_ n4_ n5_ n6_ n7_
              have hHeld : w67.cell? ⟨gbBD, 0, none⟩ = some (.int .i64 a0_0) ∧ w67.cell? ⟨gbBD, 1, none⟩ = some (.int .i64 a0_1) ∧ w67.cell? ⟨gbBD, 2, none⟩ = some (.int .i64 a0_2) ∧ w67.cell? ⟨gbBD, 3, none⟩ = some (.slice A0_3 l0_3.length c0_3) ∧ w67.cell? ⟨gbBO, 0, none⟩ = some (.int .i64 xBL000_1) ∧ w67.cell? ⟨gbBO, 1, none⟩ = some (.int .i64 x7_3) := hS_
              obtain ⟨Ao69, co69, eo69⟩ := Kd.R_slice HOC3.out
              (first | subst eo69 | (injection eo69 with f1_ f2_ f3_; have f4_ := f1_.symm; have f5_ := f3_.symm; clear f1_ f2_ f3_; subst f4_; subst f5_))
              refine norm_ (a' := ?_) ?_ ?_
              rotate_left
              ·simp only [putAll, Act.put, sA_, sB_, sC_]
               rfl
              refine one_ (i := 9) (N := some 56) #[true, true, true, true, true, true, true, true, true, true, false, false] rfl rfl (one_of HT_.out (by kernel_rfl)) (by decide) (fun K hK => ?_)
              refine Kd.R_append_rows_step k27 (w0 := w) w.heap.size (by rfl) (.tmp 53) (.tmp 55) 30 27 (.agg #[(.int .i64 0), (.int .i64 0)]) 16 rfl Try.underlying30 info27 rfl (by decide) (by omega) (.slice Ao56 x5_3.length co56) x5_3 yC1 _ _ _ (fun k_ => (w.heap.size ≤ k_) ∧ some k_ ≠ (.slice Ao69 yC1.length co69 : Value).ownBlock ∧ k_ ≠ gbBO) (fun _ => False) rfl rfl ?aO ?aR (fun _ _ h => h) (fun _ h => h.elim) ?aF ?aB ?aS ?aL ?_
              (case aR => exact Kd.C_up (Kd.R_reads' HOC3.out).2.2)
              (case aB => exact belS)
              (case aF => exact (fun k_ hk => ⟨(Nat.le_trans (below_size belS) hk), Kd.fresh' (Kd.R_lt (Kd.R_up HOC3.out)) k_ hk, Kd.freshB (g := gbBO) (o := .cells #[.int .i64 xBL000_1, .int .i64 x7_3] 27 (0, 0)) (blk_up BKBO.out) k_ hk⟩))
              (case aO => exact (Kd.R_up HO_5.out))
              (case aS => exact (below_size belS))
              (case aL => have := LMc46.out; omega)
              intro vC5 w68 ho hb hg hat
              rw [← NyC4.out] at ho
              have n0_ := Am (blk_grown (g := gbBD) (o := .cells #[.int .i64 a0_0, .int .i64 a0_1, .int .i64 a0_2, .slice A0_3 l0_3.length c0_3] 32 (0, 0)) (blk_up BKBD.out) hg (Kd.R_ne HO_5.out BKBD.out (by decide)))
              have n1_ := Am (blk_grown (g := gbBK) (o := .cells #[.int .i64 xBL000_1] 3 (0, 0)) (blk_up BKBK.out) hg (Kd.R_ne HO_5.out BKBK.out (by decide)))
              have n2_ := Am (blk_grown (g := gbBO) (o := .cells #[.int .i64 xBL000_1, .int .i64 x7_3] 27 (0, 0)) (blk_up BKBO.out) hg (Kd.R_away HO_5.out (fun _ hk => hk.2.2)))
              have n3_ := Am (Kd.N_afterv (ok := (fun k_ => (w.heap.size ≤ k_) ∧ some k_ ≠ (vBZ : Value).ownBlock ∧ some k_ ≠ (.slice Ao69 yC1.length co69 : Value).ownBlock ∧ k_ ≠ gbBD ∧ k_ ≠ gbBK ∧ k_ ≠ gbBO)) (by (with_reducible repeat (first | apply Kd.N_alloc | apply Kd.N_drewN | apply Kd.N_drew)); exact Kd.N_mono HOBX.out (fun _ hk => ⟨⟨hk.1, ⟨hk.2.1, ⟨hk.2.2.1, ⟨hk.2.2.2.2.1, ⟨hk.2.2.2.2.2.1, hk.2.2.2.2.2.2⟩⟩⟩⟩⟩, hk.2.2.2.1⟩)) hg hat)
              have n4_ := Am (Kd.N_afterv (ok := (fun k_ => (w.heap.size ≤ k_) ∧ some k_ ≠ (.slice Ao69 yC1.length co69 : Value).ownBlock ∧ k_ ≠ gbBD ∧ k_ ≠ gbBK ∧ k_ ≠ gbBO)) (by (with_reducible repeat (first | apply Kd.N_alloc | apply Kd.N_drewN | apply Kd.N_drew)); exact Kd.N_mono HOC0.out (fun _ hk => ⟨⟨hk.1, ⟨hk.2.1, ⟨hk.2.2.2.1, ⟨hk.2.2.2.2.1, hk.2.2.2.2.2⟩⟩⟩⟩, hk.2.2.1⟩)) hg hat)
              have n5_ := Am (Kd.R_after (ok := (fun k_ => (w.heap.size ≤ k_) ∧ k_ ≠ gbBO)) (by (with_reducible repeat (first | apply Kd.R_alloc | apply Kd.R_drewN | apply Kd.R_drew)); exact Kd.R_mono HOC3.out (fun _ hk => ⟨⟨hk.1, hk.2.2⟩, hk.2.1⟩)) hg hat)
              have n6_ := Am (hb)
              have n7_ := Am (ho)
              clear BKBD
              clear BKBK
              clear BKBO
              clear HOBX
              clear HOC0
              clear HOC3
              clear HB
              clear HO_5
              have BKBD := n0_
              have BKBK := n1_
              have BKBO := n2_
              have HOBX := n3_
              have HOC0 := n4_
              have HOC3 := n5_
              have HB := n6_
              have HOC6 := n7_
              clear n0_ n1_ n2_ n3_ n4_ n5_ n6_ n7_
              clear ho hb hg hat
              refine hK.out _ _ ⟨(blk_cell BKBD.out 0).trans rfl, (blk_cell BKBD.out 1).trans rfl, (blk_cell BKBD.out 2).trans rfl, (blk_cell BKBD.out 3).trans rfl, (blk_cell BKBO.out 0).trans rfl, (blk_cell BKBO.out 1).trans rfl⟩ (fun hHeld => ?_)
              clear hK K
              refine norm_ (a' := ?_) ?_ ?_
              rotate_left
              ·show Act.put _ (some 56) _ = _
               simp only [Act.put, sA_, sB_, sC_, i64_w, i32_w]
               rfl
              refine puS 10 4 ?_
              refine puS 11 5 ?_
              refine done_ (done_of HT_.out (by kernel_rfl)) ?_
              try go_wp2
              go_roundg k3
              case measure => have := HK1.out; have := HJ18.out; have := HK3.out; omega
              case rel => exact ⟨(yBY), (yC4), (wrap64 (x7_3 + 1)), rfS, H', ⟨by have := HK1.out; have := HJ18.out; have := HK3.out; omega⟩, ⟨by (with_reducible repeat (first | apply Kd.N_alloc | apply Kd.N_drewN | apply Kd.N_drew)); exact Kd.N_mono HOC0.out (fun _ hk => ⟨hk.1.1, ⟨hk.2, ⟨hk.1.2.2.1, hk.1.2.2.2.1⟩⟩⟩)⟩, ⟨by (with_reducible repeat (first | apply Kd.R_alloc | apply Kd.R_drewN | apply Kd.R_drew)); exact Kd.R_mono HOC6.out (fun _ hk => hk.1)⟩, ⟨by first | exact blk_up BKBD.out | exact BKBD.out⟩, ⟨by first | exact blk_up BKBK.out | exact BKBK.out⟩, ⟨by exact belS⟩⟩
             ·rw [if_neg c46] at H
              exact absurd H (by simp)
            ·rw [if_neg c45] at H
             exact absurd H (by simp)
           ·replace c43 := Bool.eq_false_iff.mpr c43
            subst c43
            have H1 : (impl_Board_ladders.l1 k3 x4_3 x5_3 (wrap64 (x7_3 + 1)) a0_0 a0_1 a0_2 l0_3 xBL000_1) = some (r1, r2) := by rw [if_neg (show ¬ (false = true) by decide)] at H; exact H
            clear H
            have H := H1
            clear H1
            have H' := Am H
            clear H
            have hnb70 := NBBD_BK.out
            have hnc70 := NBBK_BD.out
            obtain ⟨hcz71_0, hcz71_1, hcz71_2, hcz71_3, hfz71_0, hfz71_1, hfz71_2, hfz71_3⟩ := blk4 BKBD.out
            go_wp2_with (first | ((with_reducible refine gate_callee (f := 166) rfl ?_); refine goesL_ (some 43) rfl rfl Try.func166 (by kernel_rfl) rfl #[.agg #[.int .i64 a0_0, .int .i64 a0_1, .int .i64 a0_2, .slice A0_3 l0_3.length c0_3], .int .i64 x7_3] rfl argS ?_; (with_reducible refine (impl_Board_isSquare.calls k3 a0_0 a0_1 a0_2 _ _ l0_3 x7_3 false _ ?side1 ?side2 A42.out).mono ?_); (case side1 => exact Kd.C_up (Kd.C_below HR0_3.out HB.out)); (case side2 => exact HC0_3.out); rintro e w72 ⟨rfl, hb⟩; refine ⟨_, rfl, ?_⟩; have n0_ := Am (Kd.N_below (by first | exact Kd.N_up HO_4.out | exact HO_4.out) hb); have n1_ := Am (Kd.R_below (Kd.R_up HO_5.out) hb); have n2_ := Am (blk_below (blk_up BKBD.out) hb); have n3_ := Am (blk_below (blk_up BKBK.out) hb); have n4_ := Am (below_step belS hb); clear HO_4 HO_5 BKBD BKBK HB; revert n0_ n1_ n2_ n3_ n4_; intro HO_4 HO_5 BKBD BKBK HB; (try clear hb)))
            go_roundg k3
            case measure => have := HK1.out; have := HJ18.out; have := HK3.out; omega
            case rel => exact ⟨(x4_3), (x5_3), (wrap64 (x7_3 + 1)), rfS, H', ⟨by have := HK1.out; have := HJ18.out; have := HK3.out; omega⟩, ⟨by first | exact Kd.N_up HO_4.out | exact HO_4.out⟩, ⟨by first | exact Kd.R_up HO_5.out | exact HO_5.out⟩, ⟨by first | exact blk_up BKBD.out | exact BKBD.out⟩, ⟨by first | exact blk_up BKBK.out | exact BKBK.out⟩, ⟨by exact belS⟩⟩
          ·rw [if_neg c41] at H
           have c41b0 : decide (x7_3 ≤ a0_0) = false := decide_eq_false c41
           clear c41
           have H' := Am H
           clear H
           have hnb73 := NBBD_BK.out
           have hnc73 := NBBK_BD.out
           obtain ⟨hcz74_0, hcz74_1, hcz74_2, hcz74_3, hfz74_0, hfz74_1, hfz74_2, hfz74_3⟩ := blk4 BKBD.out
           have hcz75_0 : wr.cell? ⟨gbBK, 0, none⟩ = some (.int .i64 xBL000_1) := (blk_cell BKBK.out 0).trans rfl
           have hfz75_0 := blk_frozen BKBK.out 0
           go_wp2_with (first | ((with_reducible refine gate_dst (N := 6) rfl ?_); refine box_event (by rfl) (N := 6) (by rfl) (cs := #[.int .i64 0]) (t := 3) hrS ?_; intro gbNW hg wNW hbox hb; have n0_ := Am (Kd.N_below (Kd.N_elderB (by first | exact Kd.N_up HO_4.out | exact HO_4.out) gbNW (Nat.le_of_eq hg.symm)) hb); have n1_ := Am (Kd.R_below (Kd.R_elderB (Kd.R_up HO_5.out) gbNW (Nat.le_of_eq hg.symm)) hb); have n2_ := Am (blk_below (blk_up BKBD.out) hb); have n4_ := Am (below_step belS hb); have n6_ := Am (geS hg : w.heap.size ≤ gbNW); have n8_ := Am ((by rw [hg]; exact Nat.ne_of_lt (blk_lt (blk_up BKBD.out)) : gbBD ≠ gbNW)); clear HO_4 HO_5 BKBD BKBK HB; have BKNW := Am (hbox); revert n0_ n1_ n2_ n4_ n6_ n8_; intro HO_4 HO_5 BKBD HB GENW NBD_NW; clear hb hbox hg; have hcnw_0 : wNW.cell? ⟨gbNW, 0, none⟩ = some (.int .i64 0) := (blk_cell BKNW.out 0).trans rfl; have hfnw_0 := blk_frozen BKNW.out 0))
           go_roundg k3
           case measure => have := HK1.out; have := HJ18.out; have := HK3.out; omega
           case rel => exact ⟨(x4_3), (x5_3), (wrap64 (xBL000_1 + 1)), gbNW, rfl, GENW, NBD_NW, H', ⟨by have := HK1.out; have := HJ18.out; have := HK3.out; omega⟩, ⟨by (with_reducible repeat (first | apply Kd.N_alloc | apply Kd.N_drewN | apply Kd.N_drew)); exact Kd.N_mono (Kd.N_far (p := ⟨gbNW, 0, none⟩) (Kd.N_far (p := ⟨gbNW, 0, none⟩) HO_4.out (fun _ hk => hk.2) (.int .i64 xBL000_1)) (fun _ hk => hk.2) (.int .i64 (wrap64 (xBL000_1 + 1)))) (fun _ hk => ⟨hk.1.1, ⟨hk.1.2.1, ⟨hk.1.2.2.1, hk.2⟩⟩⟩)⟩, ⟨by (with_reducible repeat (first | apply Kd.R_alloc | apply Kd.R_drewN | apply Kd.R_drew)); exact Kd.R_mono (Kd.R_far (p := ⟨gbNW, 0, none⟩) (Kd.R_far (p := ⟨gbNW, 0, none⟩) HO_5.out (fun _ hk => hk.2) (.int .i64 xBL000_1)) (fun _ hk => hk.2) (.int .i64 (wrap64 (xBL000_1 + 1)))) (fun _ hk => hk.1)⟩, ⟨by (with_reducible repeat (first | refine blk_drewN ?_ _ | refine blk_drew ?_ | refine blk_alloc ?_ _)); refine blk_farU ?_ NBD_NW.out _; refine blk_farU ?_ NBD_NW.out _; exact BKBD.out⟩, ⟨by (with_reducible repeat (first | refine blk_drewN ?_ _ | refine blk_drew ?_ | refine blk_alloc ?_ _)); refine blk_putU (cs := #[.int .i64 xBL000_1]) ?_ 0 _ rfl; refine blk_putU (cs := #[.int .i64 0]) ?_ 0 _ rfl; exact BKNW.out⟩, ⟨by exact belS⟩⟩
    ·rw [if_neg c18] at H
     have c18b0 : decide (xBL000_1 < a0_0) = false := decide_eq_false c18
     clear c18
     simp only [Option.some.injEq, Prod.mk.injEq] at H
     obtain ⟨rfl, rfl⟩ := H
     have hnb76 := NBBK_BD.out
     have hnc76 := NBBD_BK.out
     have hcz77_0 : wr.cell? ⟨gbBK, 0, none⟩ = some (.int .i64 xBL000_1) := (blk_cell BKBK.out 0).trans rfl
     have hfz77_0 := blk_frozen BKBK.out 0
     obtain ⟨hcz78_0, hcz78_1, hcz78_2, hcz78_3, hfz78_0, hfz78_1, hfz78_2, hfz78_3⟩ := blk4 BKBD.out
     go_wp2
     go_ret2
     exact ⟨_, _, rfE, by (with_reducible repeat (first | apply Kd.N_alloc | apply Kd.N_drewN | apply Kd.N_drew)); exact Kd.N_mono HO_4.out (fun _ hk => ⟨hk.1, hk.2.1⟩), by (with_reducible repeat (first | apply Kd.R_alloc | apply Kd.R_drewN | apply Kd.R_drew)); exact HO_5.out, by exact belS⟩

end Go.Proofs.Ytkobjjadojpjfaa.Pr
