-- A text of the machine side, written by wip/gen.py of this repo out of the translation. Not trusted: Lean checks it.
import Derived.Test.YtkobjjadojpjfaaF0
import Derived.Test.YtkobjjadojpjfaaFImplBoardWith
import Derived.Test.YtkobjjadojpjfaaHClone
namespace Go.Proofs.Ytkobjjadojpjfaa.Pr
open Go.RowKit Go.Proofs.YtkobjjadojpjfaaW.PrintWords Go.Proofs.YtkobjjadojpjfaaW.PrintLast Go.Proofs.YtkobjjadojpjfaaW.PrintMore
attribute [local go_sem] max2_int min2_int max_two min_two max_three min_three max_four min_four   -- for this text's walks alone
set_option linter.unusedVariables false
set_option linter.unusedSimpArgs false

abbrev bImplBoardAdded_0 : Array Bool := #[true, true, true, true, true, true, false, false, false]
/-! ### impl_Board_added: function 179 -/
def impl_Board_added.f (k : Nat) (a0_0 : Int) (a0_1 : Int) (a0_2 : Int) (l0_3 : List (S27)) (a1_0 : Int) (a1_1 : Int) : Option (Int × Int × Int × (List (S27))) := (cloneJumps.f l0_3).bind fun tBG => ((some (([(⟨a1_0, a1_1⟩ : S27)] : List (S27)) : List (S27))).bind fun yBJ => (if tBG.length + yBJ.length < 8796093022208 then ((impl_Board_with.f k a0_0 a0_1 a0_2 l0_3 (tBG ++ yBJ)).bind fun btBP => (some (btBP.1, btBP.2.1, btBP.2.2.1, btBP.2.2.2))) else (none)))
def impl_Board_added.T1 : Bool × List (List Nat × List Nat) := (true, [([], []), ([], []), ([1], [1]), ([2], [2]), ([], []), ([4], [4]), ([3, 5, 3], [3, 5]), ([0, 6, 6], [0, 6]), ([7, 7, 0, 1, 2, 3, 4, 5, 6, 7], [7])])
def impl_Board_added.B1 : List Nat := [0, 0, 2, 6, 0, 16, 62, 127, 255]
theorem impl_Board_added.tab1 : rtab .any (opsOf Try.f179 1) = impl_Board_added.T1 := by kernel_rfl
theorem impl_Board_added.bits1 : waitsOk impl_Board_added.T1.2 impl_Board_added.B1 = true := by kernel_rfl
set_option maxHeartbeats 8000000 in
set_option maxRecDepth 100000 in
theorem impl_Board_added.calls (k : Nat) (a0_0 : Int) (a0_1 : Int) (a0_2 : Int) (A0_3 : Option Addr) (c0_3 : Nat) (l0_3 : List (S27)) (a1_0 : Int) (a1_1 : Int) (r1 : Int) (r2 : Int) (r3 : Int) (r4 : List (S27)) (w : World) (hr0_3 : Kd.C k27 w A0_3 l0_3.length l0_3) (hc0_3 : l0_3.length ≤ c0_3) (h : impl_Board_added.f k a0_0 a0_1 a0_2 l0_3 a1_0 a1_1 = some (r1, r2, r3, r4)) :
  Calls Try.prog 179 #[.agg #[.int .i64 a0_0, .int .i64 a0_1, .int .i64 a0_2, .slice A0_3 l0_3.length c0_3], .agg #[.int .i64 a1_0, .int .i64 a1_1]] w fun e w' => ∃ v3_ : Value, e = .returned (.agg #[.int .i64 r1, .int .i64 r2, .int .i64 r3, v3_]) ∧ Kd.R k27 27 w' w.heap.size (fun _ => True) v3_ r4 ∧ Below w.heap.size w w' := by
 have hu32 := Try.underlying32
 have hu27 := Try.underlying27
 have HR0_3 := Am hr0_3
 have HC0_3 := Am hc0_3
 clear hr0_3 hc0_3
 have HB := Am (Below.refl w.heap.size w)
 have H : ((cloneJumps.f l0_3).bind fun tBG => ((some (([(⟨a1_0, a1_1⟩ : S27)] : List (S27)) : List (S27))).bind fun yBJ => (if tBG.length + yBJ.length < 8796093022208 then ((impl_Board_with.f k a0_0 a0_1 a0_2 l0_3 (tBG ++ yBJ)).bind fun btBP => (some (btBP.1, btBP.2.1, btBP.2.2.1, btBP.2.2.2))) else (none)))) = some (r1, r2, r3, r4) := h
 clear h
 replace H := Option.bind_eq_some_iff.mp H
 obtain ⟨tBG, A30, H⟩ := H
 replace H : ((some (([(⟨a1_0, a1_1⟩ : S27)] : List (S27)) : List (S27))).bind fun yBJ => (if tBG.length + yBJ.length < 8796093022208 then ((impl_Board_with.f k a0_0 a0_1 a0_2 l0_3 (tBG ++ yBJ)).bind fun btBP => (some (btBP.1, btBP.2.1, btBP.2.2.1, btBP.2.2.2))) else (none))) = some (r1, r2, r3, r4) := H
 have A3 := Am A30
 clear A30
 obtain ⟨yBJ, hyBJ⟩ : ∃ y_ : List (S27), y_ = (([(⟨a1_0, a1_1⟩ : S27)] : List (S27))) := ⟨_, rfl⟩
 replace H : (if tBG.length + yBJ.length < 8796093022208 then ((impl_Board_with.f k a0_0 a0_1 a0_2 l0_3 (tBG ++ yBJ)).bind fun btBP => (some (btBP.1, btBP.2.1, btBP.2.2.1, btBP.2.2.2))) else (none)) = some (r1, r2, r3, r4) := by first | (rw [hyBJ]; with_reducible exact H) | (have H2_ := (Option.bind_some _ _).symm.trans H; rw [hyBJ]; with_reducible exact H2_) | (have H2_ := (Option.bind_some _ _).symm.trans H; with_reducible exact H2_) | with_reducible exact H | (rw [hyBJ]; exact H) | exact H
 have NyBJ := Am hyBJ
 clear hyBJ
 by_cases c4 : tBG.length + yBJ.length < 8796093022208
 ·rw [if_pos c4] at H
  have LMc4 := Am c4
  clear c4
  obtain ⟨yBM, hyBM⟩ : ∃ y_ : List (S27), y_ = (tBG ++ yBJ) := ⟨_, rfl⟩
  replace H : ((impl_Board_with.f k a0_0 a0_1 a0_2 l0_3 yBM).bind fun btBP => (some (btBP.1, btBP.2.1, btBP.2.2.1, btBP.2.2.2))) = some (r1, r2, r3, r4) := by first | (rw [hyBM]; with_reducible exact H) | (have H2_ := (Option.bind_some _ _).symm.trans H; rw [hyBM]; with_reducible exact H2_) | (have H2_ := (Option.bind_some _ _).symm.trans H; with_reducible exact H2_) | with_reducible exact H | (rw [hyBM]; exact H) | exact H
  have NyBM := Am hyBM
  clear hyBM
  replace H := Option.bind_eq_some_iff.mp H
  obtain ⟨⟨tBP, tBQ, tBR, tBS⟩, A50, H⟩ := H
  replace H : (some (tBP, tBQ, tBR, tBS)) = some (r1, r2, r3, r4) := H
  have A5 := Am A50
  clear A50
  simp only [Option.some.injEq, Prod.mk.injEq] at H
  obtain ⟨rfl, rfl, rfl, rfl⟩ := H
  go_enter Try.func179, Try.ntmps179
  try go_wp2_with (first | ((with_reducible refine gate_dst (N := 2) rfl ?_); refine box_event (by rfl) (N := 2) (by rfl) (cs := #[.int .i64 a0_0, .int .i64 a0_1, .int .i64 a0_2, .slice A0_3 l0_3.length c0_3]) (t := 32) hrS ?_; intro gbBD hg w6 hbox hb; have n0_ := Am (below_step belS hb); have n1_ := Am (hbox); have n2_ := Am (geS hg : w.heap.size ≤ gbBD); have n3_ := n2_; clear HB; revert n0_ n1_ n2_ n3_; intro HB BKBD GWBD GEBD; clear hb hbox hg) | ((with_reducible refine gate_dst (N := 3) rfl ?_); refine box_event (by rfl) (N := 3) (by rfl) (cs := #[.int .i64 a1_0, .int .i64 a1_1]) (t := 27) hrS ?_; intro gbBE hg w7 hbox hb; have n0_ := Am (blk_below (blk_up BKBD.out) hb); have n1_ := Am (below_step belS hb); have n2_ := Am (hbox); have n3_ := Am (geS hg : w.heap.size ≤ gbBE); have n4_ := n3_; have n5_ := Am ((by rw [hg]; exact Nat.ne_of_lt (blk_lt (blk_up BKBD.out)) : gbBD ≠ gbBE)); have n6_ := Am ((by rw [hg]; exact Nat.ne_of_gt (blk_lt (blk_up BKBD.out)) : gbBE ≠ gbBD)); clear BKBD HB; revert n0_ n1_ n2_ n3_ n4_ n5_ n6_; intro BKBD HB BKBE GWBE GEBE NBBD_BE NBBE_BD; clear hb hbox hg) | ((with_reducible refine gate_dst (N := 4) rfl ?_); refine box_event (by rfl) (N := 4) (by rfl) (cs := #[.int .i64 0, .int .i64 0, .int .i64 0, .slice none 0 0]) (t := 32) hrS ?_; intro gbBF hg w8 hbox hb; have n0_ := Am (blk_below (blk_up BKBD.out) hb); have n1_ := Am (blk_below (blk_up BKBE.out) hb); have n2_ := Am (below_step belS hb); have n3_ := Am (hbox); have n4_ := Am (geS hg : w.heap.size ≤ gbBF); have n5_ := n4_; have n6_ := Am ((by rw [hg]; exact Nat.ne_of_lt (blk_lt (blk_up BKBD.out)) : gbBD ≠ gbBF)); have n7_ := Am ((by rw [hg]; exact Nat.ne_of_gt (blk_lt (blk_up BKBD.out)) : gbBF ≠ gbBD)); have n8_ := Am ((by rw [hg]; exact Nat.ne_of_lt (blk_lt (blk_up BKBE.out)) : gbBE ≠ gbBF)); have n9_ := Am ((by rw [hg]; exact Nat.ne_of_gt (blk_lt (blk_up BKBE.out)) : gbBF ≠ gbBE)); clear BKBD BKBE HB; revert n0_ n1_ n2_ n3_ n4_ n5_ n6_ n7_ n8_ n9_; intro BKBD BKBE HB BKBF GWBF GEBF NBBD_BF NBBF_BD NBBE_BF NBBF_BE; clear hb hbox hg))
  have n0_ := Am (blk_drew BKBD.out)
  have n1_ := Am (blk_drew BKBE.out)
  have n2_ := Am (blk_drew BKBF.out)
  have n3_ := Am (below_drew1 HB.out)
  clear BKBD
  clear BKBE
  clear BKBF
  clear HB
  have BKBD := n0_
  have BKBE := n1_
  have BKBF := n2_
  have HB := n3_
  clear n0_ n1_ n2_ n3_
  refine start_ (n := 9) (S := fun w' => w'.cell? ⟨gbBD, 0, none⟩ = some (.int .i64 a0_0) ∧ w'.cell? ⟨gbBD, 1, none⟩ = some (.int .i64 a0_1) ∧ w'.cell? ⟨gbBD, 2, none⟩ = some (.int .i64 a0_2) ∧ w'.cell? ⟨gbBD, 3, none⟩ = some (.slice A0_3 l0_3.length c0_3) ∧ w'.cell? ⟨gbBE, 0, none⟩ = some (.int .i64 a1_0) ∧ w'.cell? ⟨gbBE, 1, none⟩ = some (.int .i64 a1_1)) (ds := []) #[false, false, false, false, false, false, false, false, false] (by kernel_rfl) rfl rfl ⟨(blk_cell BKBD.out 0).trans rfl, (blk_cell BKBD.out 1).trans rfl, (blk_cell BKBD.out 2).trans rfl, (blk_cell BKBD.out 3).trans rfl, (blk_cell BKBE.out 0).trans rfl, (blk_cell BKBE.out 1).trans rfl⟩ (fun hHeld => ?_); refine with_tabW impl_Board_added.tab1 impl_Board_added.bits1 (fun HT_ HW_ => ?_)
  generalize w8.drew = w9 at BKBD BKBE BKBF HB hHeld ⊢
  refine puS 1 6 ?_
  refine tkS 0 5 ?_
  refine tkS 2 7 ?_
  refine tkS 4 9 ?_
  refine join_ (σ := Value × Value) 3 bImplBoardAdded_0 (fun s_ => [(8, s_.1), (10, s_.2)]) (fun s_ w' => (w'.cell? ⟨gbBD, 0, none⟩ = some (.int .i64 a0_0) ∧ w'.cell? ⟨gbBD, 1, none⟩ = some (.int .i64 a0_1) ∧ w'.cell? ⟨gbBD, 2, none⟩ = some (.int .i64 a0_2) ∧ w'.cell? ⟨gbBD, 3, none⟩ = some (.slice A0_3 l0_3.length c0_3) ∧ w'.cell? ⟨gbBE, 0, none⟩ = some (.int .i64 a1_0) ∧ w'.cell? ⟨gbBE, 1, none⟩ = some (.int .i64 a1_1)) ∧ (Kd.R k27 27 w' w.heap.size (fun k_ => some k_ ≠ (s_.2 : Value).ownBlock ∧ k_ ≠ gbBE) s_.1 tBG) ∧ (Kd.R k27 27 w' w.heap.size (fun k_ => some k_ ≠ (s_.1 : Value).ownBlock ∧ k_ ≠ gbBE) s_.2 yBJ) ∧ (w'.heap[gbBD]? = some (.cells #[.int .i64 a0_0, .int .i64 a0_1, .int .i64 a0_2, .slice A0_3 l0_3.length c0_3] 32 (0, 0))) ∧ (w'.heap[gbBE]? = some (.cells #[.int .i64 a1_0, .int .i64 a1_1] 27 (0, 0))) ∧ (w'.heap[gbBF]? = some (.cells #[.int .i64 0, .int .i64 0, .int .i64 0, .slice none 0 0] 32 (0, 0))) ∧ (Below w.heap.size w w')) ?_ ?_
  rotate_left
  ·intro hCont
   refine two_ (i := 3) (j := 5) (Ni := some 8) (Nj := some 10) #[true, true, true, true, true, false, false, false, false] #[true, true, true, false, true, true, false, false, false] rfl rfl rfl rfl (two_of HT_.out (by kernel_rfl)) (by decide) (by decide) (fun K hK => ?_) (fun K hK => ?_)
   ·skip
    refine goes_ Try.func149 (by kernel_rfl) rfl #[.slice A0_3 l0_3.length c0_3] (by rfl) rfl rfl argS ?_
    with_reducible refine (cloneJumps.calls _ _ l0_3 tBG _ ?side1 ?side2 A3.out).mono ?_
    (case side1 => exact Kd.C_up (Kd.C_below HR0_3.out HB.out))
    (case side2 => exact HC0_3.out)
    rintro e w10 ⟨vBH, rfl, ho0, hb⟩
    refine ⟨_, rfl, ?_⟩
    have n0_ := Am (Kd.R_lower (Kd.R_newB ho0 (g := gbBE) (o := .cells #[.int .i64 a1_0, .int .i64 a1_1] 27 (0, 0)) (blk_up BKBE.out)) (below_size belS))
    have n1_ := Am (blk_below (blk_up BKBD.out) hb)
    have n2_ := Am (blk_below (blk_up BKBE.out) hb)
    have n3_ := Am (blk_below (blk_up BKBF.out) hb)
    have n4_ := Am (below_step belS hb)
    clear BKBD
    clear BKBE
    clear BKBF
    clear HB
    have HOBI := n0_
    have BKBD := n1_
    have BKBE := n2_
    have BKBF := n3_
    have HB := n4_
    clear n0_ n1_ n2_ n3_ n4_
    (try clear hb)
    (try clear hb2)
    (try clear hk)
    (try clear hi)
    (try clear ho0)
    refine hK.out _ _ ⟨(blk_cell BKBD.out 0).trans rfl, (blk_cell BKBD.out 1).trans rfl, (blk_cell BKBD.out 2).trans rfl, (blk_cell BKBD.out 3).trans rfl, (blk_cell BKBE.out 0).trans rfl, (blk_cell BKBE.out 1).trans rfl⟩ (fun hHeld => ?_)
    clear hK K
    refine norm_ (a' := ?_) ?_ ?_
    rotate_left
    ·show Act.put _ (some 8) _ = _
     simp only [Act.put, sA_, sB_, sC_, i64_w, i32_w]
     rfl
    refine one_ (i := 5) (N := some 10) bImplBoardAdded_0 rfl rfl (one_of HT_.out (by kernel_rfl)) (by decide) (fun K hK => ?_)
    refine Kd.R_lit_step k27 _ 27 ?hg (N := 10) ?hd (xs := ([(⟨a1_0, a1_1⟩ : S27)] : List (S27))) (inner := [.int .i64 a1_0, .int .i64 a1_1]) (ok := fun _ => True) (okp := fun _ => True) ?hr ?hp (fun _ hk => hk) trivial (Below.refl _ _) (Nat.le_refl _) (by simp) ?_; (case hd => rfl); (case hg => rfl); (case hr => first | (go_simp; done) | (go_simp; rfl)); (case hp => exact (Reps.c2 (show Kd.M k27 _ _ _ (⟨a1_0, a1_1⟩ : S27) [.int .i64 a1_0, .int .i64 a1_1] from (k27_mkM _ _ _ (⟨a1_0, a1_1⟩ : S27) )) (Reps.none _ _)))
    intro vBK w11 ho12 hb hg_ hnew_
    clear hg_ hnew_
    (first | rw [← NyBJ.out] at ho12 | (simp only [Int.reduceToNat] at ho12; rw [← NyBJ.out] at ho12))
    have n0_ := Am (Kd.R_elder' (Kd.R_up HOBI.out) (Kd.R_base ho12) hb)
    have n1_ := Am (Kd.R_lower (Kd.R_newB (Kd.R_new' ho12 (Kd.R_lt (Kd.R_up HOBI.out))) (g := gbBE) (o := .cells #[.int .i64 a1_0, .int .i64 a1_1] 27 (0, 0)) (blk_up BKBE.out)) (below_size belS))
    have n2_ := Am (blk_below (blk_up BKBD.out) hb)
    have n3_ := Am (blk_below (blk_up BKBE.out) hb)
    have n4_ := Am (blk_below (blk_up BKBF.out) hb)
    have n5_ := Am (below_step belS hb)
    clear HOBI
    clear BKBD
    clear BKBE
    clear BKBF
    clear HB
    have HOBI := n0_
    have HOBL := n1_
    have BKBD := n2_
    have BKBE := n3_
    have BKBF := n4_
    have HB := n5_
    clear n0_ n1_ n2_ n3_ n4_ n5_
    clear hb ho12
    refine hK.out _ _ ⟨(blk_cell BKBD.out 0).trans rfl, (blk_cell BKBD.out 1).trans rfl, (blk_cell BKBD.out 2).trans rfl, (blk_cell BKBD.out 3).trans rfl, (blk_cell BKBE.out 0).trans rfl, (blk_cell BKBE.out 1).trans rfl⟩ (fun hHeld => ?_)
    clear hK K
    refine norm_ (a' := ?_) ?_ ?_
    rotate_left
    ·show Act.put _ (some 10) _ = _
     simp only [Act.put, sA_, sB_, sC_, i64_w, i32_w]
     rfl
    exact norm_ (by simp only [putAll, Act.put, sA_, sB_, sC_]) (hCont (vBH, vBK) _ ⟨hHeld, (by (with_reducible repeat (first | apply Kd.R_alloc | apply Kd.R_drewN | apply Kd.R_drew)); exact Kd.R_mono HOBI.out (fun _ hk => ⟨hk.2, hk.1.2⟩)), (by (with_reducible repeat (first | apply Kd.R_alloc | apply Kd.R_drewN | apply Kd.R_drew)); exact Kd.R_mono HOBL.out (fun _ hk => ⟨hk.1.2, hk.2⟩)), (blk_up BKBD.out), (blk_up BKBE.out), (blk_up BKBF.out), belS⟩)
   ·skip
    refine Kd.R_lit_step k27 _ 27 ?hg (N := 10) ?hd (xs := ([(⟨a1_0, a1_1⟩ : S27)] : List (S27))) (inner := [.int .i64 a1_0, .int .i64 a1_1]) (ok := fun _ => True) (okp := fun _ => True) ?hr ?hp (fun _ hk => hk) trivial (Below.refl _ _) (Nat.le_refl _) (by simp) ?_; (case hd => rfl); (case hg => rfl); (case hr => first | (go_simp; done) | (go_simp; rfl)); (case hp => exact (Reps.c2 (show Kd.M k27 _ _ _ (⟨a1_0, a1_1⟩ : S27) [.int .i64 a1_0, .int .i64 a1_1] from (k27_mkM _ _ _ (⟨a1_0, a1_1⟩ : S27) )) (Reps.none _ _)))
    intro vBK w10 ho11 hb hg_ hnew_
    clear hg_ hnew_
    (first | rw [← NyBJ.out] at ho11 | (simp only [Int.reduceToNat] at ho11; rw [← NyBJ.out] at ho11))
    have n0_ := Am (Kd.R_lower (Kd.R_newB ho11 (g := gbBE) (o := .cells #[.int .i64 a1_0, .int .i64 a1_1] 27 (0, 0)) (blk_up BKBE.out)) (below_size belS))
    have n1_ := Am (blk_below (blk_up BKBD.out) hb)
    have n2_ := Am (blk_below (blk_up BKBE.out) hb)
    have n3_ := Am (blk_below (blk_up BKBF.out) hb)
    have n4_ := Am (below_step belS hb)
    clear BKBD
    clear BKBE
    clear BKBF
    clear HB
    have HOBL := n0_
    have BKBD := n1_
    have BKBE := n2_
    have BKBF := n3_
    have HB := n4_
    clear n0_ n1_ n2_ n3_ n4_
    clear hb ho11
    refine hK.out _ _ ⟨(blk_cell BKBD.out 0).trans rfl, (blk_cell BKBD.out 1).trans rfl, (blk_cell BKBD.out 2).trans rfl, (blk_cell BKBD.out 3).trans rfl, (blk_cell BKBE.out 0).trans rfl, (blk_cell BKBE.out 1).trans rfl⟩ (fun hHeld => ?_)
    clear hK K
    refine norm_ (a' := ?_) ?_ ?_
    rotate_left
    ·show Act.put _ (some 10) _ = _
     simp only [Act.put, sA_, sB_, sC_, i64_w, i32_w]
     rfl
    refine one_ (i := 3) (N := some 8) bImplBoardAdded_0 rfl rfl (one_of HT_.out (by kernel_rfl)) (by decide) (fun K hK => ?_)
    refine goes_ Try.func149 (by kernel_rfl) rfl #[.slice A0_3 l0_3.length c0_3] (by rfl) rfl rfl argS ?_
    with_reducible refine (cloneJumps.calls _ _ l0_3 tBG _ ?side1 ?side2 A3.out).mono ?_
    (case side1 => exact Kd.C_up (Kd.C_below HR0_3.out HB.out))
    (case side2 => exact HC0_3.out)
    rintro e w12 ⟨vBH, rfl, ho0, hb⟩
    refine ⟨_, rfl, ?_⟩
    have n0_ := Am (Kd.R_elder' (Kd.R_up HOBL.out) (Kd.R_base ho0) hb)
    have n1_ := Am (Kd.R_lower (Kd.R_newB (Kd.R_new' ho0 (Kd.R_lt (Kd.R_up HOBL.out))) (g := gbBE) (o := .cells #[.int .i64 a1_0, .int .i64 a1_1] 27 (0, 0)) (blk_up BKBE.out)) (below_size belS))
    have n2_ := Am (blk_below (blk_up BKBD.out) hb)
    have n3_ := Am (blk_below (blk_up BKBE.out) hb)
    have n4_ := Am (blk_below (blk_up BKBF.out) hb)
    have n5_ := Am (below_step belS hb)
    clear HOBL
    clear BKBD
    clear BKBE
    clear BKBF
    clear HB
    have HOBL := n0_
    have HOBI := n1_
    have BKBD := n2_
    have BKBE := n3_
    have BKBF := n4_
    have HB := n5_
    clear n0_ n1_ n2_ n3_ n4_ n5_
    (try clear hb)
    (try clear hb2)
    (try clear hk)
    (try clear hi)
    (try clear ho0)
    refine hK.out _ _ ⟨(blk_cell BKBD.out 0).trans rfl, (blk_cell BKBD.out 1).trans rfl, (blk_cell BKBD.out 2).trans rfl, (blk_cell BKBD.out 3).trans rfl, (blk_cell BKBE.out 0).trans rfl, (blk_cell BKBE.out 1).trans rfl⟩ (fun hHeld => ?_)
    clear hK K
    refine norm_ (a' := ?_) ?_ ?_
    rotate_left
    ·show Act.put _ (some 8) _ = _
     simp only [Act.put, sA_, sB_, sC_, i64_w, i32_w]
     rfl
    exact norm_ (by simp only [putAll, Act.put, sA_, sB_, sC_]) (hCont (vBH, vBK) _ ⟨hHeld, (by (with_reducible repeat (first | apply Kd.R_alloc | apply Kd.R_drewN | apply Kd.R_drew)); exact Kd.R_mono HOBI.out (fun _ hk => ⟨hk.1.2, hk.2⟩)), (by (with_reducible repeat (first | apply Kd.R_alloc | apply Kd.R_drewN | apply Kd.R_drew)); exact Kd.R_mono HOBL.out (fun _ hk => ⟨hk.2, hk.1.2⟩)), (blk_up BKBD.out), (blk_up BKBE.out), (blk_up BKBF.out), belS⟩)
  rintro ⟨vBH, vBK⟩ w13 ⟨hS_, h0_, h1_, h2_, h3_, h4_, h5_⟩
  have n0_ : Aside0 (Kd.R k27 27 w13 w.heap.size (fun k_ => some k_ ≠ (vBK : Value).ownBlock ∧ k_ ≠ gbBE) vBH tBG) := ⟨h0_⟩
  have n1_ : Aside0 (Kd.R k27 27 w13 w.heap.size (fun k_ => some k_ ≠ (vBH : Value).ownBlock ∧ k_ ≠ gbBE) vBK yBJ) := ⟨h1_⟩
  have n2_ : Aside0 (w13.heap[gbBD]? = some (.cells #[.int .i64 a0_0, .int .i64 a0_1, .int .i64 a0_2, .slice A0_3 l0_3.length c0_3] 32 (0, 0))) := ⟨h2_⟩
  have n3_ : Aside0 (w13.heap[gbBE]? = some (.cells #[.int .i64 a1_0, .int .i64 a1_1] 27 (0, 0))) := ⟨h3_⟩
  have n4_ : Aside0 (w13.heap[gbBF]? = some (.cells #[.int .i64 0, .int .i64 0, .int .i64 0, .slice none 0 0] 32 (0, 0))) := ⟨h4_⟩
  have n5_ : Aside0 (Below w.heap.size w w13) := ⟨h5_⟩
  clear BKBD
  clear BKBE
  clear BKBF
  clear HB
  clear h0_ h1_ h2_ h3_ h4_ h5_
  have HOBI := n0_
  have HOBL := n1_
  have BKBD := n2_
  have BKBE := n3_
  have BKBF := n4_
  have HB := n5_
  clear n0_ n1_ n2_ n3_ n4_ n5_
  have hHeld : w13.cell? ⟨gbBD, 0, none⟩ = some (.int .i64 a0_0) ∧ w13.cell? ⟨gbBD, 1, none⟩ = some (.int .i64 a0_1) ∧ w13.cell? ⟨gbBD, 2, none⟩ = some (.int .i64 a0_2) ∧ w13.cell? ⟨gbBD, 3, none⟩ = some (.slice A0_3 l0_3.length c0_3) ∧ w13.cell? ⟨gbBE, 0, none⟩ = some (.int .i64 a1_0) ∧ w13.cell? ⟨gbBE, 1, none⟩ = some (.int .i64 a1_1) := hS_
  obtain ⟨Ao15, co15, eo15⟩ := Kd.R_slice HOBL.out
  (first | subst eo15 | (injection eo15 with f1_ f2_ f3_; have f4_ := f1_.symm; have f5_ := f3_.symm; clear f1_ f2_ f3_; subst f4_; subst f5_))
  refine norm_ (a' := ?_) ?_ ?_
  rotate_left
  ·simp only [putAll, Act.put, sA_, sB_, sC_]
   rfl
  refine one_ (i := 6) (N := some 11) #[true, true, true, true, true, true, true, false, false] rfl rfl (one_of HT_.out (by kernel_rfl)) (by decide) (fun K hK => ?_)
  refine Kd.R_append_rows_step k27 (w0 := w) w.heap.size (by rfl) (.tmp 8) (.tmp 10) 30 27 (.agg #[(.int .i64 0), (.int .i64 0)]) 16 rfl Try.underlying30 info27 rfl (by decide) (by omega) vBH tBG yBJ _ _ _ (fun k_ => some k_ ≠ (.slice Ao15 yBJ.length co15 : Value).ownBlock ∧ k_ ≠ gbBE) (fun _ => False) rfl rfl ?aO ?aR (fun _ _ h => h) (fun _ h => h.elim) ?aF ?aB ?aS ?aL ?_
  (case aR => exact Kd.C_up (Kd.R_reads' HOBL.out).2.2)
  (case aB => exact belS)
  (case aF => exact (fun k_ hk => ⟨Kd.fresh' (Kd.R_lt (Kd.R_up HOBL.out)) k_ hk, Kd.freshB (g := gbBE) (o := .cells #[.int .i64 a1_0, .int .i64 a1_1] 27 (0, 0)) (blk_up BKBE.out) k_ hk⟩))
  (case aO => exact (Kd.R_up HOBI.out))
  (case aS => exact (below_size belS))
  (case aL => have := LMc4.out; omega)
  intro vBN w14 ho hb hg hat
  rw [← NyBM.out] at ho
  have n0_ := Am (blk_grown (g := gbBD) (o := .cells #[.int .i64 a0_0, .int .i64 a0_1, .int .i64 a0_2, .slice A0_3 l0_3.length c0_3] 32 (0, 0)) (blk_up BKBD.out) hg (Kd.R_ne HOBI.out BKBD.out (by decide)))
  have n1_ := Am (blk_grown (g := gbBE) (o := .cells #[.int .i64 a1_0, .int .i64 a1_1] 27 (0, 0)) (blk_up BKBE.out) hg (Kd.R_away HOBI.out (fun _ hk => hk.2)))
  have n2_ := Am (blk_grown (g := gbBF) (o := .cells #[.int .i64 0, .int .i64 0, .int .i64 0, .slice none 0 0] 32 (0, 0)) (blk_up BKBF.out) hg (Kd.R_ne HOBI.out BKBF.out (by decide)))
  have n3_ := Am (Kd.R_after (ok := (fun k_ => k_ ≠ gbBE)) (by (with_reducible repeat (first | apply Kd.R_alloc | apply Kd.R_drewN | apply Kd.R_drew)); exact Kd.R_mono HOBL.out (fun _ hk => ⟨hk.2, hk.1⟩)) hg hat)
  have n4_ := Am (hb)
  have n5_ := Am (ho)
  clear BKBD
  clear BKBE
  clear BKBF
  clear HOBL
  clear HB
  clear HOBI
  have BKBD := n0_
  have BKBE := n1_
  have BKBF := n2_
  have HOBL := n3_
  have HB := n4_
  have HOBO := n5_
  clear n0_ n1_ n2_ n3_ n4_ n5_
  clear ho hb hg hat
  obtain ⟨Ao16, co16, eo16⟩ := Kd.R_slice HOBO.out
  (first | subst eo16 | (injection eo16 with f1_ f2_ f3_; have f4_ := f1_.symm; have f5_ := f3_.symm; clear f1_ f2_ f3_; subst f4_; subst f5_))
  refine hK.out _ _ ⟨(blk_cell BKBD.out 0).trans rfl, (blk_cell BKBD.out 1).trans rfl, (blk_cell BKBD.out 2).trans rfl, (blk_cell BKBD.out 3).trans rfl, (blk_cell BKBE.out 0).trans rfl, (blk_cell BKBE.out 1).trans rfl⟩ (fun hHeld => ?_)
  clear hK K
  refine norm_ (a' := ?_) ?_ ?_
  rotate_left
  ·show Act.put _ (some 11) _ = _
   simp only [Act.put, sA_, sB_, sC_, i64_w, i32_w]
   rfl
  refine one_ (i := 7) (N := some 12) #[true, true, true, true, true, true, true, true, false] rfl rfl (one_of HT_.out (by kernel_rfl)) (by decide) (fun K hK => ?_)
  refine goes_ Try.func178 (by kernel_rfl) rfl #[.agg #[.int .i64 a0_0, .int .i64 a0_1, .int .i64 a0_2, .slice A0_3 l0_3.length c0_3], .slice Ao16 yBM.length co16] (by rfl) rfl rfl argS ?_
  with_reducible refine (impl_Board_with.calls k a0_0 a0_1 a0_2 _ _ l0_3 (fun k_ => some k_ = (.slice Ao16 yBM.length co16 : Value).ownBlock) (.slice Ao16 yBM.length co16) yBM tBP tBQ tBR tBS w _ ?side1 ?side2 ?side3 ?side4 A5.out).mono ?_
  (case side1 => exact belS)
  (case side2 => exact Kd.C_kept_came k27_heap HR0_3.out belS (fun k_ hs_ => (fun e_ => Kd.R_base HOBO.out k_ e_.symm) hs_))
  (case side3 => exact HC0_3.out)
  (case side4 => exact Kd.R_tight rfl HOBO.out)
  rintro e w17 ⟨vBT, rfl, ho0, hb, hkp⟩
  refine ⟨_, rfl, ?_⟩
  have n0_ := Am (blk_kept (blk_up BKBD.out) hkp (fun hs_ => (fun e_ => (Kd.R_ne HOBO.out BKBD.out (by decide)) e_) hs_))
  have n1_ := Am (blk_kept (blk_up BKBE.out) hkp (fun hs_ => (fun e_ => (Kd.R_away HOBO.out (fun _ hk => hk.2)) e_) hs_))
  have n2_ := Am (blk_kept (blk_up BKBF.out) hkp (fun hs_ => (fun e_ => (Kd.R_ne HOBO.out BKBF.out (by decide)) e_) hs_))
  have n3_ := Am (Kd.R_mono (ok' := fun k_ => k_ ≠ gbBE ∧ some k_ ≠ (vBT : Value).ownBlock) (Kd.R_keptB (HOBL.out) hkp (fun k_ hk_ hs_ => (hk_.2) hs_)) (fun k_ hk_ => ⟨hk_.1.1, fun e_ => Or.elim (ho0.1 k_ e_.symm) (fun hs_ => hk_.2.1 hs_) (fun hn_ => Nat.not_le.2 hk_.2.2 hn_)⟩))
  have n4_ := Am (Kd.R_mono (ok' := fun k_ => some k_ ≠ (.slice Ao15 yBJ.length co15 : Value).ownBlock ∧ k_ ≠ gbBE) ho0 (fun k_ hk_ => ⟨Or.elim hk_ (fun hs_ => fun e_ => (((HOBL.out).1 k_ e_.symm).2) hs_) (fun hn_ => (Kd.fresh' (Kd.R_lt (Kd.R_up HOBL.out)) k_ hn_)), Or.elim hk_ (fun hs_ => fun e_ => (Kd.R_away HOBO.out (fun _ hk => hk.2)) (by rw [← e_]; exact hs_)) (fun hn_ => (Kd.freshB (g := gbBE) (o := .cells #[.int .i64 a1_0, .int .i64 a1_1] 27 (0, 0)) (blk_up BKBE.out) k_ hn_))⟩))
  have n5_ := Am (hb)
  clear BKBD
  clear BKBE
  clear BKBF
  clear HOBL
  clear HB
  clear HOBO
  have BKBD := n0_
  have BKBE := n1_
  have BKBF := n2_
  have HOBL := n3_
  have HOBU := n4_
  have HB := n5_
  clear n0_ n1_ n2_ n3_ n4_ n5_
  (try clear hb)
  (try clear hkp)
  (try clear ho0)
  obtain ⟨Ao21, co21, eo21⟩ := Kd.R_slice HOBU.out
  (first | subst eo21 | (injection eo21 with f1_ f2_ f3_; have f4_ := f1_.symm; have f5_ := f3_.symm; clear f1_ f2_ f3_; subst f4_; subst f5_))
  refine hK.out _ _ ⟨(blk_cell BKBD.out 0).trans rfl, (blk_cell BKBD.out 1).trans rfl, (blk_cell BKBD.out 2).trans rfl, (blk_cell BKBD.out 3).trans rfl, (blk_cell BKBE.out 0).trans rfl, (blk_cell BKBE.out 1).trans rfl⟩ (fun hHeld => ?_)
  clear hK K
  refine norm_ (a' := ?_) ?_ ?_
  rotate_left
  ·show Act.put _ (some 12) _ = _
   simp only [Act.put, sA_, sB_, sC_, i64_w, i32_w]
   rfl
  refine one_ (i := 8) (N := none) #[true, true, true, true, true, true, true, true, true] rfl rfl (one_of HT_.out (by kernel_rfl)) (by decide) (fun K hK => ?_)
  have hs18 : w17.cell? ⟨gbBF, 0, none⟩ = some (.int .i64 0) := (blk_cell BKBF.out 0).trans rfl
  have hfs18 := blk_frozen BKBF.out 0
  have hns18_0 := NBBD_BF.out
  have hns18_1 := NBBE_BF.out
  have hms18_0 := NBBF_BD.out
  have hms18_1 := NBBF_BE.out
  have hs19 : w17.cell? ⟨gbBF, 1, none⟩ = some (.int .i64 0) := (blk_cell BKBF.out 1).trans rfl
  have hfs19 := blk_frozen BKBF.out 1
  have hns19_0 := NBBD_BF.out
  have hns19_1 := NBBE_BF.out
  have hms19_0 := NBBF_BD.out
  have hms19_1 := NBBF_BE.out
  have hs20 : w17.cell? ⟨gbBF, 2, none⟩ = some (.int .i64 0) := (blk_cell BKBF.out 2).trans rfl
  have hfs20 := blk_frozen BKBF.out 2
  have hns20_0 := NBBD_BF.out
  have hns20_1 := NBBE_BF.out
  have hms20_0 := NBBF_BD.out
  have hms20_1 := NBBF_BE.out
  have hs22 : w17.cell? ⟨gbBF, 3, none⟩ = some (.slice none 0 0) := (blk_cell BKBF.out 3).trans rfl
  have hfs22 := blk_frozen BKBF.out 3
  have hns22_0 := NBBD_BF.out
  have hns22_1 := NBBE_BF.out
  have hms22_0 := NBBF_BD.out
  have hms22_1 := NBBF_BE.out
  refine skip_ (w1 := ?_) (by rfl) rfl ?_ ?_
  rotate_left
  ·go_simp
   rfl
  refine hK.out _ _ ⟨((cell_far (p := ⟨gbBF, _, none⟩) NBBD_BF.out _).trans (((cell_far (p := ⟨gbBF, _, none⟩) NBBD_BF.out _).trans (((cell_far (p := ⟨gbBF, _, none⟩) NBBD_BF.out _).trans (((cell_far (p := ⟨gbBF, _, none⟩) NBBD_BF.out _).trans (hHeld.1)))))))), ((cell_far (p := ⟨gbBF, _, none⟩) NBBD_BF.out _).trans (((cell_far (p := ⟨gbBF, _, none⟩) NBBD_BF.out _).trans (((cell_far (p := ⟨gbBF, _, none⟩) NBBD_BF.out _).trans (((cell_far (p := ⟨gbBF, _, none⟩) NBBD_BF.out _).trans (hHeld.2.1)))))))), ((cell_far (p := ⟨gbBF, _, none⟩) NBBD_BF.out _).trans (((cell_far (p := ⟨gbBF, _, none⟩) NBBD_BF.out _).trans (((cell_far (p := ⟨gbBF, _, none⟩) NBBD_BF.out _).trans (((cell_far (p := ⟨gbBF, _, none⟩) NBBD_BF.out _).trans (hHeld.2.2.1)))))))), ((cell_far (p := ⟨gbBF, _, none⟩) NBBD_BF.out _).trans (((cell_far (p := ⟨gbBF, _, none⟩) NBBD_BF.out _).trans (((cell_far (p := ⟨gbBF, _, none⟩) NBBD_BF.out _).trans (((cell_far (p := ⟨gbBF, _, none⟩) NBBD_BF.out _).trans (hHeld.2.2.2.1)))))))), ((cell_far (p := ⟨gbBF, _, none⟩) NBBE_BF.out _).trans (((cell_far (p := ⟨gbBF, _, none⟩) NBBE_BF.out _).trans (((cell_far (p := ⟨gbBF, _, none⟩) NBBE_BF.out _).trans (((cell_far (p := ⟨gbBF, _, none⟩) NBBE_BF.out _).trans (hHeld.2.2.2.2.1)))))))), ((cell_far (p := ⟨gbBF, _, none⟩) NBBE_BF.out _).trans (((cell_far (p := ⟨gbBF, _, none⟩) NBBE_BF.out _).trans (((cell_far (p := ⟨gbBF, _, none⟩) NBBE_BF.out _).trans (((cell_far (p := ⟨gbBF, _, none⟩) NBBE_BF.out _).trans (hHeld.2.2.2.2.2))))))))⟩ (fun hHeld => ?_)
  clear hK K
  refine done_ (done_of HT_.out (by kernel_rfl)) ?_
  try go_wp2
  refine bodyPost_ret (results_cell_row rfl _ _ gbBF 32 #[.int .i64 tBP, .int .i64 tBQ, .int .i64 tBR, .slice Ao21 tBS.length co21] (0, 0) _ rfl (by (with_reducible repeat (first | refine blk_drewN ?_ _ | refine blk_drew ?_ | refine blk_alloc ?_ _)); refine blk_put (cs := #[.int .i64 tBP, .int .i64 tBQ, .int .i64 tBR, .slice none 0 0]) ?_ 3 _ rfl; refine blk_put (cs := #[.int .i64 tBP, .int .i64 tBQ, .int .i64 0, .slice none 0 0]) ?_ 2 _ rfl; refine blk_put (cs := #[.int .i64 tBP, .int .i64 0, .int .i64 0, .slice none 0 0]) ?_ 1 _ rfl; refine blk_putU (cs := #[.int .i64 0, .int .i64 0, .int .i64 0, .slice none 0 0]) ?_ 0 _ rfl; exact BKBF.out) Try.underlying32 rfl (by kernel_rfl)) rfl ?_
  exact ⟨_, rfE, by (with_reducible repeat (first | apply Kd.R_alloc | apply Kd.R_drewN | apply Kd.R_drew)); exact Kd.R_mono (Kd.R_far (p := ⟨gbBF, 3, none⟩) (Kd.R_far (p := ⟨gbBF, 2, none⟩) (Kd.R_far (p := ⟨gbBF, 1, none⟩) (Kd.R_far (p := ⟨gbBF, 0, none⟩) (Kd.R_types HOBU.out BKBF.out (by decide)) (fun _ hk => hk.2) (.int .i64 tBP)) (fun _ hk => hk.2) (.int .i64 tBQ)) (fun _ hk => hk.2) (.int .i64 tBR)) (fun _ hk => hk.2) (.slice Ao21 tBS.length co21)) (fun _ hk => trivial), by exact belS⟩
 ·rw [if_neg c4] at H
  exact absurd H (by simp)

end Go.Proofs.Ytkobjjadojpjfaa.Pr
