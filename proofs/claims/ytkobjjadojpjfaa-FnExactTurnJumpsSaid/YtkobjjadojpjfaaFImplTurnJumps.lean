-- A text of the machine side, written by wip/gen.py of this repo out of the translation. Not trusted: Lean checks it.
import Derived.Test.YtkobjjadojpjfaaF0
import Derived.Test.YtkobjjadojpjfaaFImplBoardWith
import Derived.Test.YtkobjjadojpjfaaFImplChecked
import Derived.Test.YtkobjjadojpjfaaFImplIsBoard
import Derived.Test.YtkobjjadojpjfaaV2
namespace Go.Proofs.Ytkobjjadojpjfaa.Pr
open Go.RowKit Go.Proofs.YtkobjjadojpjfaaW.PrintWords Go.Proofs.YtkobjjadojpjfaaW.PrintLast Go.Proofs.YtkobjjadojpjfaaW.PrintMore
attribute [local go_sem] max2_int min2_int max_two min_two max_three min_three max_four min_four   -- for this text's walks alone
set_option linter.unusedVariables false
set_option linter.unusedSimpArgs false

/-! ### impl_TurnJumps: function 104 -/
def impl_TurnJumps.l0 : Nat → List (S27) → List (S27) → Int → Int → Int → Int → Int → List (S27) → Option (Int × Int × Int × (List (S27)) × Bool)
 | 0, _, _, _, _, _, _, _, _ => none
 | k + 1, x4, x13, x14, x15, xBE000, xBE001, xBE002, xBE003 => if x15 < x14 then (if 0 ≤ x15 then (if x15 < (x13.length : Int) then (if x4.length < 8796093022208 then (impl_TurnJumps.l0 k (x4 ++ [(⟨(rd_T27 x13 x15).f1, (rd_T27 x13 x15).f0⟩ : S27)]) x13 x14 (wrap64 (x15 + 1)) xBE000 xBE001 xBE002 xBE003) else (none)) else (none)) else (none)) else ((impl_Board_with.f k xBE000 xBE001 xBE002 xBE003 x4).bind fun btBO => ((impl_checked.f k btBO.1 btBO.2.1 btBO.2.2.1 btBO.2.2.2).bind fun btBU => (some (btBU.1, btBU.2.1, btBU.2.2.1, btBU.2.2.2.1, btBU.2.2.2.2))))
def impl_TurnJumps.f (k : Nat) (a0_0 : Int) (a0_1 : Int) (a0_2 : Int) (l0_3 : List (S27)) : Option (Int × Int × Int × (List (S27)) × Bool) := (impl_IsBoard.f k a0_0 a0_1 a0_2 l0_3).bind fun tBF => (if tBF = true then (impl_TurnJumps.l0 k (([] : List (S27))) l0_3 (l0_3.length : Int) 0 a0_0 a0_1 a0_2 l0_3) else (some (0, 0, 0, ([] : List (S27)), false)))
set_option maxHeartbeats 8000000 in
set_option maxRecDepth 100000 in
theorem impl_TurnJumps.calls (k : Nat) (a0_0 : Int) (a0_1 : Int) (a0_2 : Int) (A0_3 : Option Addr) (c0_3 : Nat) (l0_3 : List (S27)) (r1 : Int) (r2 : Int) (r3 : Int) (r4 : List (S27)) (r5 : Bool) (w : World) (hr0_3 : Kd.C k27 w A0_3 l0_3.length l0_3) (hc0_3 : l0_3.length ≤ c0_3) (h : impl_TurnJumps.f k a0_0 a0_1 a0_2 l0_3 = some (r1, r2, r3, r4, r5)) :
  Calls Try.prog 104 #[.agg #[.int .i64 a0_0, .int .i64 a0_1, .int .i64 a0_2, .slice A0_3 l0_3.length c0_3]] w fun e w' => ∃ v3_ : Value, e = .returned (.tuple #[.agg #[.int .i64 r1, .int .i64 r2, .int .i64 r3, v3_], .bool r5]) ∧ Kd.R k27 27 w' w.heap.size (fun _ => True) v3_ r4 ∧ Below w.heap.size w w' := by
 have hu32 := Try.underlying32
 have hu27 := Try.underlying27
 have HR0_3 := Aside0.mk hr0_3
 have HC0_3 := Aside0.mk hc0_3
 clear hr0_3 hc0_3
 have HB := Aside0.mk (Below.refl w.heap.size w)
 have H : ((impl_IsBoard.f k a0_0 a0_1 a0_2 l0_3).bind fun tBF => (if tBF = true then (impl_TurnJumps.l0 k (([] : List (S27))) l0_3 (l0_3.length : Int) 0 a0_0 a0_1 a0_2 l0_3) else (some (0, 0, 0, ([] : List (S27)), false)))) = some (r1, r2, r3, r4, r5) := h
 clear h
 replace H := Option.bind_eq_some_iff.mp H
 obtain ⟨tBF, A20, H⟩ := H
 replace H : (if tBF = true then (impl_TurnJumps.l0 k (([] : List (S27))) l0_3 (l0_3.length : Int) 0 a0_0 a0_1 a0_2 l0_3) else (some (0, 0, 0, ([] : List (S27)), false))) = some (r1, r2, r3, r4, r5) := H
 have A2 := Aside0.mk A20
 clear A20
 by_cases c3 : tBF = true
 ·subst c3
  have H1 : (impl_TurnJumps.l0 k (([] : List (S27))) l0_3 (l0_3.length : Int) 0 a0_0 a0_1 a0_2 l0_3) = some (r1, r2, r3, r4, r5) := by rw [if_pos rfl] at H; exact H
  clear H
  have H := H1
  clear H1
  obtain ⟨yBG, hyBG⟩ : ∃ y_ : List (S27), y_ = (([] : List (S27))) := ⟨_, rfl⟩
  replace H : (impl_TurnJumps.l0 k yBG l0_3 (l0_3.length : Int) 0 a0_0 a0_1 a0_2 l0_3) = some (r1, r2, r3, r4, r5) := by first | (rw [hyBG]; with_reducible exact H) | (have H2_ := (Option.bind_some _ _).symm.trans H; rw [hyBG]; with_reducible exact H2_) | (have H2_ := (Option.bind_some _ _).symm.trans H; with_reducible exact H2_) | with_reducible exact H | (rw [hyBG]; exact H) | exact H
  have NyBG := Aside0.mk hyBG
  clear hyBG
  have H' := Aside0.mk H
  clear H
  go_enter Try.func104, Try.ntmps104
  go_wp2_with (first | ((with_reducible refine gate_dst (N := 1) rfl ?_); refine box_event ?hg (N := 1) ?hd (cs := #[.int .i64 a0_0, .int .i64 a0_1, .int .i64 a0_2, .slice A0_3 l0_3.length c0_3]) (t := 32) ?hr ?_; (case hd => rfl); (case hg => rfl); (case hr => first | (go_simp; done) | (go_simp; rfl)); intro gbBD hg w4 hbox hb; have n0_ := Aside0.mk (below_step belS hb); have n1_ := Aside0.mk (hbox); have n2_ := Aside0.mk ((by rw [hg]; exact (below_size belS) : w.heap.size ≤ gbBD)); have n3_ := n2_; clear HB; have HB := n0_; have BKBD := n1_; have GWBD := n2_; have GEBD := n3_; clear n0_ n1_ n2_ n3_; clear hb hbox hg) | ((with_reducible refine gate_dst (N := 2) rfl ?_); refine box_event ?hg (N := 2) ?hd (cs := #[.int .i64 0, .int .i64 0, .int .i64 0, .slice none 0 0]) (t := 32) ?hr ?_; (case hd => rfl); (case hg => rfl); (case hr => first | (go_simp; done) | (go_simp; rfl)); intro gbBE hg w5 hbox hb; have n0_ := Aside0.mk (blk_below (blk_up BKBD.out) hb); have n1_ := Aside0.mk (below_step belS hb); have n2_ := Aside0.mk (hbox); have n3_ := Aside0.mk ((by rw [hg]; exact (below_size belS) : w.heap.size ≤ gbBE)); have n4_ := n3_; have n5_ := Aside0.mk ((by rw [hg]; exact Nat.ne_of_lt (blk_lt (blk_up BKBD.out)) : gbBD ≠ gbBE)); have n6_ := Aside0.mk ((by rw [hg]; exact Nat.ne_of_gt (blk_lt (blk_up BKBD.out)) : gbBE ≠ gbBD)); clear BKBD; clear HB; have BKBD := n0_; have HB := n1_; have BKBE := n2_; have GWBE := n3_; have GEBE := n4_; have NBBD_BE := n5_; have NBBE_BD := n6_; clear n0_ n1_ n2_ n3_ n4_ n5_ n6_; clear hb hbox hg; have hnb6 := NBBD_BE.out; have hnc6 := NBBE_BD.out; obtain ⟨hcz7_0, hcz7_1, hcz7_2, hcz7_3, hfz7_0, hfz7_1, hfz7_2, hfz7_3⟩ := blk4 BKBD.out) | ((with_reducible refine gate_callee (f := 44) rfl ?_); refine goesL_ (some 8) rfl rfl Try.func44 (by kernel_rfl) rfl #[.agg #[.int .i64 a0_0, .int .i64 a0_1, .int .i64 a0_2, .slice A0_3 l0_3.length c0_3]] rfl argS ?_; (with_reducible refine (impl_IsBoard.calls k a0_0 a0_1 a0_2 _ _ l0_3 true _ ?side1 ?side2 A2.out).mono ?_); (case side1 => exact Kd.C_up (Kd.C_below HR0_3.out HB.out)); (case side2 => exact HC0_3.out); rintro e w8 ⟨rfl, hb⟩; refine ⟨_, rfl, ?_⟩; have n0_ := Aside0.mk (blk_below (blk_up BKBD.out) hb); have n1_ := Aside0.mk (blk_below (blk_up BKBE.out) hb); have n2_ := Aside0.mk (below_step belS hb); clear BKBD; clear BKBE; clear HB; have BKBD := n0_; have BKBE := n1_; have HB := n2_; clear n0_ n1_ n2_; (try clear hb); (try clear hb2); (try clear hk); (try clear hi)) | ((with_reducible refine gate_dst (N := 11) rfl ?_); refine Kd.R_lit k27 _ 27 ?hg (N := 11) ?hd (xs := ([] : List (S27))) (inner := []) (ok := fun _ => True) (okp := fun _ => True) ?hr ?hp (fun _ hk => hk) trivial (Below.refl _ _) (Nat.le_refl _) (by simp) ?_; (case hd => rfl); (case hg => rfl); (case hr => first | (go_simp; done) | (go_simp; rfl)); (case hp => exact (Reps.none _ _)); intro vBH w9 ho10 hb hg_ hnew_; clear hg_ hnew_; (first | rw [← NyBG.out] at ho10 | (simp only [Int.reduceToNat] at ho10; rw [← NyBG.out] at ho10)); have n0_ := Aside0.mk (Kd.R_lower ho10 (below_size belS)); have n1_ := Aside0.mk (blk_below (blk_up BKBD.out) hb); have n2_ := Aside0.mk (blk_below (blk_up BKBE.out) hb); have n3_ := Aside0.mk (below_step belS hb); clear BKBD; clear BKBE; clear HB; have HOBI := n0_; have BKBD := n1_; have BKBE := n2_; have HB := n3_; clear n0_ n1_ n2_ n3_; clear hb ho10; obtain ⟨hcz11_0, hcz11_1, hcz11_2, hcz11_3, hfz11_0, hfz11_1, hfz11_2, hfz11_3⟩ := blk4 BKBD.out))
  go_loopg [4, 15] k (fun kq v4 v15 w' => ∃ (x4_1 : List (S27)) (x15_1 : Int), v15 = .int .i64 x15_1 ∧ Aside0 (impl_TurnJumps.l0 kq x4_1 l0_3 (l0_3.length : Int) x15_1 a0_0 a0_1 a0_2 l0_3 = some (r1, r2, r3, r4, r5)) ∧ Aside0 (kq ≤ k) ∧ Aside0 (Kd.R k27 27 w' w.heap.size (fun _ => True) v4 x4_1) ∧ Aside0 (w'.heap[gbBD]? = some (.cells #[.int .i64 a0_0, .int .i64 a0_1, .int .i64 a0_2, (.slice A0_3 l0_3.length c0_3)] 32 (0, 0))) ∧ Aside0 (w'.heap[gbBE]? = some (.cells #[.int .i64 0, .int .i64 0, .int .i64 0, (.slice none 0 0)] 32 (0, 0))) ∧ Aside0 (Below w.heap.size w w'))
  case atStart => exact ⟨(yBG), (0), (by first | rfl | (simp; done) | (simp [*]; done)), H', ⟨Nat.le_refl _⟩, ⟨by (with_reducible repeat (first | apply Kd.R_alloc | apply Kd.R_drewN | apply Kd.R_drew)); exact HOBI.out⟩, ⟨by (with_reducible repeat (first | refine blk_drewN ?_ _ | refine blk_drew ?_ | refine blk_alloc ?_ _)); exact BKBD.out⟩, ⟨by (with_reducible repeat (first | refine blk_drewN ?_ _ | refine blk_drew ?_ | refine blk_alloc ?_ _)); exact BKBE.out⟩, ⟨by exact belS⟩⟩
  case round =>
   clear H'
   try clear c1
   try clear p2
   try clear c3
   try clear c4
   try clear c6
   try clear c10
   try clear hcz11_0 hcz11_1 hcz11_2 hcz11_3
   try clear hcz7_0 hcz7_1 hcz7_2 hcz7_3
   try clear hfz11_0 hfz11_1 hfz11_2 hfz11_3
   try clear hfz7_0 hfz7_1 hfz7_2 hfz7_3
   obtain ⟨x4_1, x15_1, rfl, HA, HK1, HO_4, BKBD, BKBE, HB⟩ := hrel
   cases gk with
   | zero => exact absurd HA.out (by simp [impl_TurnJumps.l0])
   | succ k1 =>
    have H := HA.out
    clear HA
    simp only [impl_TurnJumps.l0] at H
    by_cases c12 : x15_1 < (l0_3.length : Int)
    ·rw [if_pos c12] at H
     have c12b0 : decide (x15_1 < (l0_3.length : Int)) = true := decide_eq_true c12
     clear c12
     by_cases c13 : 0 ≤ x15_1
     ·rw [if_pos c13] at H
      have c13b0 : decide (0 ≤ x15_1) = true := decide_eq_true c13
      clear c13
      by_cases c14 : x15_1 < (l0_3.length : Int)
      ·rw [if_pos c14] at H
       have c14b0 : decide (x15_1 < (l0_3.length : Int)) = true := decide_eq_true c14
       clear c14
       by_cases c15 : x4_1.length < 8796093022208
       ·rw [if_pos c15] at H
        have LMc15 := Aside0.mk c15
        clear c15
        obtain ⟨yBL, hyBL⟩ : ∃ y_ : List (S27), y_ = (x4_1 ++ [(⟨(rd_T27 l0_3 x15_1).f1, (rd_T27 l0_3 x15_1).f0⟩ : S27)]) := ⟨_, rfl⟩
        replace H : (impl_TurnJumps.l0 k1 yBL l0_3 (l0_3.length : Int) (wrap64 (x15_1 + 1)) a0_0 a0_1 a0_2 l0_3) = some (r1, r2, r3, r4, r5) := by first | (rw [hyBL]; with_reducible exact H) | (have H2_ := (Option.bind_some _ _).symm.trans H; rw [hyBL]; with_reducible exact H2_) | (have H2_ := (Option.bind_some _ _).symm.trans H; with_reducible exact H2_) | with_reducible exact H | (rw [hyBL]; exact H) | exact H
        have NyBL := Aside0.mk hyBL
        clear hyBL
        have H' := Aside0.mk H
        clear H
        have pBJ : 0 ≤ (x15_1 : Int) := of_decide_eq_true (by first | (with_reducible assumption) | assumption)
        have qBJ : x15_1 < (l0_3.length : Int) := of_decide_eq_true (by first | (with_reducible assumption) | assumption)
        obtain ⟨adBJ, eBJ, hxBJ_0, hxBJ_1⟩ := at_T27 HR0_3.out x15_1 pBJ qBJ
        cases eBJ
        first | (replace hxBJ_0 := (HB.out.cell (World.block_lt_of_cell? w _ hxBJ_0)).trans hxBJ_0) | skip
        first | (replace hxBJ_1 := (HB.out.cell (World.block_lt_of_cell? w _ hxBJ_1)).trans hxBJ_1) | skip
        replace pBJ := eq_true pBJ
        replace qBJ := eq_true qBJ
        go_wp2_with (first | ((with_reducible refine gate_dst (N := 6) rfl ?_); refine box_event ?hg (N := 6) ?hd (cs := #[.int .i64 0, .int .i64 0]) (t := 27) ?hr ?_; (case hd => rfl); (case hg => rfl); (case hr => first | (go_simp; done) | (go_simp; rfl)); intro gbBK hg w16 hbox hb; have n0_ := Aside0.mk (Kd.R_below (Kd.R_elderB (Kd.R_up HO_4.out) gbBK (Nat.le_of_eq hg.symm)) hb); have n1_ := Aside0.mk (blk_below (blk_up BKBD.out) hb); have n2_ := Aside0.mk (blk_below (blk_up BKBE.out) hb); have n3_ := Aside0.mk (below_step belS hb); have n4_ := Aside0.mk (hbox); have n5_ := Aside0.mk ((by rw [hg]; exact (below_size belS) : w.heap.size ≤ gbBK)); have n6_ := n5_; have n7_ := Aside0.mk ((by rw [hg]; exact Nat.ne_of_lt (blk_lt (blk_up BKBD.out)) : gbBD ≠ gbBK)); have n8_ := Aside0.mk ((by rw [hg]; exact Nat.ne_of_gt (blk_lt (blk_up BKBD.out)) : gbBK ≠ gbBD)); have n9_ := Aside0.mk ((by rw [hg]; exact Nat.ne_of_lt (blk_lt (blk_up BKBE.out)) : gbBE ≠ gbBK)); have n10_ := Aside0.mk ((by rw [hg]; exact Nat.ne_of_gt (blk_lt (blk_up BKBE.out)) : gbBK ≠ gbBE)); clear HO_4; clear BKBD; clear BKBE; clear HB; have HO_4 := n0_; have BKBD := n1_; have BKBE := n2_; have HB := n3_; have BKBK := n4_; have GWBK := n5_; have GEBK := n6_; have NBBD_BK := n7_; have NBBK_BD := n8_; have NBBE_BK := n9_; have NBBK_BE := n10_; clear n0_ n1_ n2_ n3_ n4_ n5_ n6_ n7_ n8_ n9_ n10_; clear hb hbox hg; have hnb17 := NBBK_BD.out; have hnc17 := NBBD_BK.out; have hnb18 := NBBK_BE.out; have hnc18 := NBBE_BK.out; obtain ⟨hcz19_0, hcz19_1, hfz19_0, hfz19_1⟩ := blk2 BKBK.out) | ((with_reducible refine gate_builtin (b := .append) (xs := #[.tmp 19, .tmp 25]) rfl ?_); at_builtin; refine Kd.R_append k27 (w0 := w) w.heap.size rfl (.tmp 19) (.tmp 25) 30 27 (.agg #[(.int .i64 0), (.int .i64 0)]) 16 rfl Try.underlying30 info27 rfl (by decide) (by omega) u4 x4_1 (⟨(rd_T27 l0_3 x15_1).f1, (rd_T27 l0_3 x15_1).f0⟩ : S27) [.int .i64 ((rd_T27 l0_3 x15_1).f1), .int .i64 ((rd_T27 l0_3 x15_1).f0)] (fun k_ => k_ ≠ gbBK) (fun _ => False) rfl (by first | (go_simp; done) | (go_simp; rfl)) ?aP (fun _ hk => hk.elim) ?aF ?aO ?aB ?aS ?aL ?_; (case aP => exact k27_mkM _ _ _ (⟨(rd_T27 l0_3 x15_1).f1, (rd_T27 l0_3 x15_1).f0⟩ : S27)); (case aB => exact belS); (case aF => exact (fun k_ hk => Kd.freshB (g := gbBK) (o := .cells #[.int .i64 ((rd_T27 l0_3 x15_1).f0), .int .i64 ((rd_T27 l0_3 x15_1).f1)] 27 (0, 0)) (by (with_reducible repeat (first | refine blk_drewN ?_ _ | refine blk_drew ?_ | refine blk_alloc ?_ _)); refine blk_put (cs := #[.int .i64 ((rd_T27 l0_3 x15_1).f0), .int .i64 0]) ?_ 1 _ rfl; (with_reducible repeat (first | refine blk_drewN ?_ _ | refine blk_drew ?_ | refine blk_alloc ?_ _)); refine blk_put (cs := #[.int .i64 0, .int .i64 0]) ?_ 0 _ rfl; (with_reducible repeat (first | refine blk_drewN ?_ _ | refine blk_drew ?_ | refine blk_alloc ?_ _)); exact BKBK.out) k_ hk)); (case aO => exact (by (with_reducible repeat (first | apply Kd.R_alloc | apply Kd.R_drewN | apply Kd.R_drew)); exact Kd.R_mono (Kd.R_far (p := ⟨gbBK, 1, none⟩) (Kd.R_far (p := ⟨gbBK, 0, none⟩) (Kd.R_mono HO_4.out (fun k_ hk => (⟨hk, hk.2⟩ : _ ∧ k_ ≠ gbBK))) (fun _ hk => hk.2) (.int .i64 ((rd_T27 l0_3 x15_1).f0))) (fun _ hk => hk.2) (.int .i64 ((rd_T27 l0_3 x15_1).f1))) (fun _ hk => hk.1.2))); (case aS => exact (below_size belS)); (case aL => have := LMc15.out; omega); intro vBM w20 ho hb hg hat; rw [← NyBL.out] at ho; have n0_ := Aside0.mk (blk_grown (g := gbBD) (o := .cells #[.int .i64 a0_0, .int .i64 a0_1, .int .i64 a0_2, .slice (some adBJ) l0_3.length c0_3] 32 (0, 0)) (by (with_reducible repeat (first | refine blk_drewN ?_ _ | refine blk_drew ?_ | refine blk_alloc ?_ _)); refine blk_far ?_ NBBD_BK.out _; (with_reducible repeat (first | refine blk_drewN ?_ _ | refine blk_drew ?_ | refine blk_alloc ?_ _)); refine blk_far ?_ NBBD_BK.out _; (with_reducible repeat (first | refine blk_drewN ?_ _ | refine blk_drew ?_ | refine blk_alloc ?_ _)); exact BKBD.out) hg (Kd.R_ne HO_4.out BKBD.out (by decide))); have n1_ := Aside0.mk (blk_grown (g := gbBE) (o := .cells #[.int .i64 0, .int .i64 0, .int .i64 0, .slice none 0 0] 32 (0, 0)) (by (with_reducible repeat (first | refine blk_drewN ?_ _ | refine blk_drew ?_ | refine blk_alloc ?_ _)); refine blk_far ?_ NBBE_BK.out _; (with_reducible repeat (first | refine blk_drewN ?_ _ | refine blk_drew ?_ | refine blk_alloc ?_ _)); refine blk_far ?_ NBBE_BK.out _; (with_reducible repeat (first | refine blk_drewN ?_ _ | refine blk_drew ?_ | refine blk_alloc ?_ _)); exact BKBE.out) hg (Kd.R_ne HO_4.out BKBE.out (by decide))); have n2_ := Aside0.mk (blk_grown (g := gbBK) (o := .cells #[.int .i64 ((rd_T27 l0_3 x15_1).f0), .int .i64 ((rd_T27 l0_3 x15_1).f1)] 27 (0, 0)) (by (with_reducible repeat (first | refine blk_drewN ?_ _ | refine blk_drew ?_ | refine blk_alloc ?_ _)); refine blk_put (cs := #[.int .i64 ((rd_T27 l0_3 x15_1).f0), .int .i64 0]) ?_ 1 _ rfl; (with_reducible repeat (first | refine blk_drewN ?_ _ | refine blk_drew ?_ | refine blk_alloc ?_ _)); refine blk_put (cs := #[.int .i64 0, .int .i64 0]) ?_ 0 _ rfl; (with_reducible repeat (first | refine blk_drewN ?_ _ | refine blk_drew ?_ | refine blk_alloc ?_ _)); exact BKBK.out) hg (Kd.R_away HO_4.out (fun _ hk => hk.2))); have n3_ := Aside0.mk (hb); have n4_ := Aside0.mk (ho); clear BKBD; clear BKBE; clear BKBK; clear HB; clear HO_4; have BKBD := n0_; have BKBE := n1_; have BKBK := n2_; have HB := n3_; have HOBN := n4_; clear n0_ n1_ n2_ n3_ n4_; clear ho hb hg hat))
        go_roundg k1
        case measure => have := HK1.out; omega
        case rel => exact ⟨(yBL), (wrap64 (x15_1 + 1)), (by first | rfl | (simp; done) | (simp [*]; done)), H', ⟨by have := HK1.out; omega⟩, ⟨by (with_reducible repeat (first | apply Kd.R_alloc | apply Kd.R_drewN | apply Kd.R_drew)); exact Kd.R_mono HOBN.out (fun _ hk => trivial)⟩, ⟨by (with_reducible repeat (first | refine blk_drewN ?_ _ | refine blk_drew ?_ | refine blk_alloc ?_ _)); exact BKBD.out⟩, ⟨by (with_reducible repeat (first | refine blk_drewN ?_ _ | refine blk_drew ?_ | refine blk_alloc ?_ _)); exact BKBE.out⟩, ⟨by exact belS⟩⟩
       ·rw [if_neg c15] at H
        exact absurd H (by simp)
      ·rw [if_neg c14] at H
       exact absurd H (by simp)
     ·rw [if_neg c13] at H
      exact absurd H (by simp)
    ·rw [if_neg c12] at H
     have c12b0 : decide (x15_1 < (l0_3.length : Int)) = false := decide_eq_false c12
     clear c12
     replace H := Option.bind_eq_some_iff.mp H
     obtain ⟨⟨tBO, tBP, tBQ, tBR⟩, A210, H⟩ := H
     replace H : ((impl_checked.f k1 tBO tBP tBQ tBR).bind fun btBU => (some (btBU.1, btBU.2.1, btBU.2.2.1, btBU.2.2.2.1, btBU.2.2.2.2))) = some (r1, r2, r3, r4, r5) := H
     have A21 := Aside0.mk A210
     clear A210
     replace H := Option.bind_eq_some_iff.mp H
     obtain ⟨⟨tBU, tBV, tBW, tBX, tC0⟩, A220, H⟩ := H
     replace H : (some (tBU, tBV, tBW, tBX, tC0)) = some (r1, r2, r3, r4, r5) := H
     have A22 := Aside0.mk A220
     clear A220
     simp only [Option.some.injEq, Prod.mk.injEq] at H
     obtain ⟨rfl, rfl, rfl, rfl, rfl⟩ := H
     have hnb23 := NBBD_BE.out
     have hnc23 := NBBE_BD.out
     obtain ⟨hcz24_0, hcz24_1, hcz24_2, hcz24_3, hfz24_0, hfz24_1, hfz24_2, hfz24_3⟩ := blk4 BKBD.out
     obtain ⟨Ao25, co25, eo25⟩ := Kd.R_slice HO_4.out
     subst eo25
     go_wp2_with (first | ((with_reducible refine gate_callee (f := 178) rfl ?_); refine goesL_ (some 30) rfl rfl Try.func178 (by kernel_rfl) rfl #[.agg #[.int .i64 a0_0, .int .i64 a0_1, .int .i64 a0_2, .slice A0_3 l0_3.length c0_3], .slice Ao25 x4_1.length co25] rfl argS ?_; (with_reducible refine (impl_Board_with.calls k1 a0_0 a0_1 a0_2 _ _ l0_3 (fun k_ => some k_ = (.slice Ao25 x4_1.length co25 : Value).ownBlock) (.slice Ao25 x4_1.length co25) x4_1 tBO tBP tBQ tBR w _ ?side1 ?side2 ?side3 ?side4 A21.out).mono ?_); (case side1 => exact belS); (case side2 => exact Kd.C_kept_came k27_heap HR0_3.out belS (fun k_ hs_ => (fun e_ => Kd.R_base HO_4.out k_ e_.symm) hs_)); (case side3 => exact HC0_3.out); (case side4 => exact Kd.R_tight rfl HO_4.out); rintro e w26 ⟨vBS, rfl, ho0, hb, hkp⟩; refine ⟨_, rfl, ?_⟩; have n0_ := Aside0.mk (blk_kept (blk_up BKBD.out) hkp (fun hs_ => (fun e_ => (Kd.R_ne HO_4.out BKBD.out (by decide)) e_) hs_)); have n1_ := Aside0.mk (blk_kept (blk_up BKBE.out) hkp (fun hs_ => (fun e_ => (Kd.R_ne HO_4.out BKBE.out (by decide)) e_) hs_)); have n2_ := Aside0.mk (Kd.R_mono (ok' := fun k_ => True) ho0 (fun k_ hk_ => trivial)); have n3_ := Aside0.mk (hb); clear BKBD; clear BKBE; clear HB; clear HO_4; have BKBD := n0_; have BKBE := n1_; have HOBT := n2_; have HB := n3_; clear n0_ n1_ n2_ n3_; (try clear hb); (try clear hkp); (try clear ho0); obtain ⟨Ao27, co27, eo27⟩ := Kd.R_slice HOBT.out; subst eo27) | ((with_reducible refine gate_callee (f := 177) rfl ?_); refine goesL_ (some 31) rfl rfl Try.func177 (by kernel_rfl) rfl #[.agg #[.int .i64 tBO, .int .i64 tBP, .int .i64 tBQ, .slice Ao27 tBR.length co27]] rfl argS ?_; (with_reducible refine (impl_checked.calls k1 tBO tBP tBQ (fun k_ => some k_ = (.slice Ao27 tBR.length co27 : Value).ownBlock) (.slice Ao27 tBR.length co27) tBR tBU tBV tBW tBX tC0 w _ ?side1 ?side2 A22.out).mono ?_); (case side1 => exact belS); (case side2 => exact Kd.R_tight rfl HOBT.out); rintro e w28 ⟨vBY, rfl, ho0, hb, hkp⟩; refine ⟨_, rfl, ?_⟩; have n0_ := Aside0.mk (blk_kept (blk_up BKBD.out) hkp (fun hs_ => (fun e_ => (Kd.R_ne HOBT.out BKBD.out (by decide)) e_) hs_)); have n1_ := Aside0.mk (blk_kept (blk_up BKBE.out) hkp (fun hs_ => (fun e_ => (Kd.R_ne HOBT.out BKBE.out (by decide)) e_) hs_)); have n2_ := Aside0.mk (Kd.R_mono (ok' := fun k_ => True) ho0 (fun k_ hk_ => trivial)); have n3_ := Aside0.mk (hb); clear BKBD; clear BKBE; clear HB; clear HOBT; have BKBD := n0_; have BKBE := n1_; have HOBZ := n2_; have HB := n3_; clear n0_ n1_ n2_ n3_; (try clear hb); (try clear hkp); (try clear ho0); obtain ⟨hcz29_0, hcz29_1, hcz29_2, hcz29_3, hfz29_0, hfz29_1, hfz29_2, hfz29_3⟩ := blk4 BKBE.out; obtain ⟨Ao30, co30, eo30⟩ := Kd.R_slice HOBZ.out; subst eo30))
     refine bodyPost_ret (results_ct rfl _ _ gbBE 32 #[.int .i64 tBU, .int .i64 tBV, .int .i64 tBW, .slice Ao30 tBX.length co30] (0, 0) _ rfl (by (with_reducible repeat (first | refine blk_drewN ?_ _ | refine blk_drew ?_ | refine blk_alloc ?_ _)); refine blk_put (cs := #[.int .i64 tBU, .int .i64 tBV, .int .i64 tBW, .slice none 0 0]) ?_ 3 _ rfl; (with_reducible repeat (first | refine blk_drewN ?_ _ | refine blk_drew ?_ | refine blk_alloc ?_ _)); refine blk_put (cs := #[.int .i64 tBU, .int .i64 tBV, .int .i64 0, .slice none 0 0]) ?_ 2 _ rfl; (with_reducible repeat (first | refine blk_drewN ?_ _ | refine blk_drew ?_ | refine blk_alloc ?_ _)); refine blk_put (cs := #[.int .i64 tBU, .int .i64 0, .int .i64 0, .slice none 0 0]) ?_ 1 _ rfl; (with_reducible repeat (first | refine blk_drewN ?_ _ | refine blk_drew ?_ | refine blk_alloc ?_ _)); refine blk_put (cs := #[.int .i64 0, .int .i64 0, .int .i64 0, .slice none 0 0]) ?_ 0 _ rfl; (with_reducible repeat (first | refine blk_drewN ?_ _ | refine blk_drew ?_ | refine blk_alloc ?_ _)); exact BKBE.out) Try.underlying32 rfl (by kernel_rfl)) rfl ?_
     exact ⟨_, by first | rfl | (simp [errW_none, errW_some] <;> rfl) | (simp [*, errW_none, errW_some] <;> rfl), by (with_reducible repeat (first | apply Kd.R_alloc | apply Kd.R_drewN | apply Kd.R_drew)); exact Kd.R_mono (Kd.R_far (p := ⟨gbBE, 3, none⟩) (Kd.R_far (p := ⟨gbBE, 2, none⟩) (Kd.R_far (p := ⟨gbBE, 1, none⟩) (Kd.R_far (p := ⟨gbBE, 0, none⟩) (Kd.R_types HOBZ.out BKBE.out (by decide)) (fun _ hk => hk.2) (.int .i64 tBU)) (fun _ hk => hk.2) (.int .i64 tBV)) (fun _ hk => hk.2) (.int .i64 tBW)) (fun _ hk => hk.2) (.slice Ao30 tBX.length co30)) (fun _ hk => trivial), by exact belS⟩
 ·replace c3 := Bool.eq_false_iff.mpr c3
  subst c3
  have H1 : (some (0, 0, 0, ([] : List (S27)), false)) = some (r1, r2, r3, r4, r5) := by rw [if_neg (show ¬ (false = true) by decide)] at H; exact H
  clear H
  have H := H1
  clear H1
  simp only [Option.some.injEq, Prod.mk.injEq] at H
  obtain ⟨rfl, rfl, rfl, rfl, rfl⟩ := H
  go_enter Try.func104, Try.ntmps104
  go_wp2_with (first | ((with_reducible refine gate_dst (N := 1) rfl ?_); refine box_event ?hg (N := 1) ?hd (cs := #[.int .i64 a0_0, .int .i64 a0_1, .int .i64 a0_2, .slice A0_3 l0_3.length c0_3]) (t := 32) ?hr ?_; (case hd => rfl); (case hg => rfl); (case hr => first | (go_simp; done) | (go_simp; rfl)); intro gbBD hg w31 hbox hb; have n0_ := Aside0.mk (below_step belS hb); have n1_ := Aside0.mk (hbox); have n2_ := Aside0.mk ((by rw [hg]; exact (below_size belS) : w.heap.size ≤ gbBD)); have n3_ := n2_; clear HB; have HB := n0_; have BKBD := n1_; have GWBD := n2_; have GEBD := n3_; clear n0_ n1_ n2_ n3_; clear hb hbox hg) | ((with_reducible refine gate_dst (N := 2) rfl ?_); refine box_event ?hg (N := 2) ?hd (cs := #[.int .i64 0, .int .i64 0, .int .i64 0, .slice none 0 0]) (t := 32) ?hr ?_; (case hd => rfl); (case hg => rfl); (case hr => first | (go_simp; done) | (go_simp; rfl)); intro gbBE hg w32 hbox hb; have n0_ := Aside0.mk (blk_below (blk_up BKBD.out) hb); have n1_ := Aside0.mk (below_step belS hb); have n2_ := Aside0.mk (hbox); have n3_ := Aside0.mk ((by rw [hg]; exact (below_size belS) : w.heap.size ≤ gbBE)); have n4_ := n3_; have n5_ := Aside0.mk ((by rw [hg]; exact Nat.ne_of_lt (blk_lt (blk_up BKBD.out)) : gbBD ≠ gbBE)); have n6_ := Aside0.mk ((by rw [hg]; exact Nat.ne_of_gt (blk_lt (blk_up BKBD.out)) : gbBE ≠ gbBD)); clear BKBD; clear HB; have BKBD := n0_; have HB := n1_; have BKBE := n2_; have GWBE := n3_; have GEBE := n4_; have NBBD_BE := n5_; have NBBE_BD := n6_; clear n0_ n1_ n2_ n3_ n4_ n5_ n6_; clear hb hbox hg; have hnb33 := NBBD_BE.out; have hnc33 := NBBE_BD.out; obtain ⟨hcz34_0, hcz34_1, hcz34_2, hcz34_3, hfz34_0, hfz34_1, hfz34_2, hfz34_3⟩ := blk4 BKBD.out) | ((with_reducible refine gate_callee (f := 44) rfl ?_); refine goesL_ (some 8) rfl rfl Try.func44 (by kernel_rfl) rfl #[.agg #[.int .i64 a0_0, .int .i64 a0_1, .int .i64 a0_2, .slice A0_3 l0_3.length c0_3]] rfl argS ?_; (with_reducible refine (impl_IsBoard.calls k a0_0 a0_1 a0_2 _ _ l0_3 false _ ?side1 ?side2 A2.out).mono ?_); (case side1 => exact Kd.C_up (Kd.C_below HR0_3.out HB.out)); (case side2 => exact HC0_3.out); rintro e w35 ⟨rfl, hb⟩; refine ⟨_, rfl, ?_⟩; have n0_ := Aside0.mk (blk_below (blk_up BKBD.out) hb); have n1_ := Aside0.mk (blk_below (blk_up BKBE.out) hb); have n2_ := Aside0.mk (below_step belS hb); clear BKBD; clear BKBE; clear HB; have BKBD := n0_; have BKBE := n1_; have HB := n2_; clear n0_ n1_ n2_; (try clear hb); (try clear hb2); (try clear hk); (try clear hi); obtain ⟨hcz36_0, hcz36_1, hcz36_2, hcz36_3, hfz36_0, hfz36_1, hfz36_2, hfz36_3⟩ := blk4 BKBE.out))
  refine bodyPost_ret (results_ct rfl _ _ gbBE 32 #[.int .i64 0, .int .i64 0, .int .i64 0, .slice none 0 0] (0, 0) _ rfl (by (with_reducible repeat (first | refine blk_drewN ?_ _ | refine blk_drew ?_ | refine blk_alloc ?_ _)); refine blk_put (cs := #[.int .i64 0, .int .i64 0, .int .i64 0, .slice none 0 0]) ?_ 3 _ rfl; (with_reducible repeat (first | refine blk_drewN ?_ _ | refine blk_drew ?_ | refine blk_alloc ?_ _)); refine blk_put (cs := #[.int .i64 0, .int .i64 0, .int .i64 0, .slice none 0 0]) ?_ 2 _ rfl; (with_reducible repeat (first | refine blk_drewN ?_ _ | refine blk_drew ?_ | refine blk_alloc ?_ _)); refine blk_put (cs := #[.int .i64 0, .int .i64 0, .int .i64 0, .slice none 0 0]) ?_ 1 _ rfl; (with_reducible repeat (first | refine blk_drewN ?_ _ | refine blk_drew ?_ | refine blk_alloc ?_ _)); refine blk_put (cs := #[.int .i64 0, .int .i64 0, .int .i64 0, .slice none 0 0]) ?_ 0 _ rfl; (with_reducible repeat (first | refine blk_drewN ?_ _ | refine blk_drew ?_ | refine blk_alloc ?_ _)); exact BKBE.out) Try.underlying32 rfl (by kernel_rfl)) rfl ?_
  exact ⟨_, by first | rfl | (simp [errW_none, errW_some] <;> rfl) | (simp [*, errW_none, errW_some] <;> rfl), by first | exact Kd.R_nil _ _ _ _ _ | exact Kd.N_nil _ _ _ _ _ | exact Kd.V_nil _ _ _ _ _ | exact Kd.Q_nil _ _ _ _ _ | exact Kd.S_nil _ _ _ _ _, by exact belS⟩

end Go.Proofs.Ytkobjjadojpjfaa.Pr
