-- A text of the machine side, written by wip/gen.py of this repo out of the translation. Not trusted: Lean checks it.
import Derived.Test.YtkobjjadojpjfaaF0
import Derived.Test.YtkobjjadojpjfaaFGD
import Derived.Test.YtkobjjadojpjfaaFImplBoardPlaces
import Derived.Test.YtkobjjadojpjfaaHMax
namespace Go.Proofs.Ytkobjjadojpjfaa.Pr
open Go.RowKit Go.Proofs.YtkobjjadojpjfaaW.PrintWords Go.Proofs.YtkobjjadojpjfaaW.PrintLast Go.Proofs.YtkobjjadojpjfaaW.PrintMore
attribute [local go_sem] max2_int min2_int max_two min_two max_three min_three max_four min_four   -- for this text's walks alone
set_option linter.unusedVariables false
set_option linter.unusedSimpArgs false

/-! ### impl_LikeliestAt: function 94 -/
def impl_LikeliestAt.l0 : Nat → List Int → Int → List Int → Int → Int → Option (List Int × Bool)
  | 0, _, _, _, _, _ => none
  | k + 1, x9, x10, x26, x27, x28 => if x28 < x27 then (if 0 ≤ x28 then (if x28 < (x26.length : Int) then (if (rd x26 x28) = x10 then (if x9.length < 17592186044416 then (impl_LikeliestAt.l0 k (x9 ++ [x28]) x10 x26 x27 (wrap64 (x28 + 1))) else (none)) else (impl_LikeliestAt.l0 k x9 x10 x26 x27 (wrap64 (x28 + 1)))) else (none)) else (none)) else (some (x9, true))
def impl_LikeliestAt.f (k : Nat) (a0_0 : Int) (a0_1 : Int) (a0_2 : Int) (l0_3 : List (S27)) (a1 : Int) (a2 : Int) : Option (List Int × Bool) := (impl_isThrown.f k a0_0 a0_1 a0_2 l0_3 a2 20 (([a1] : List Int))).bind fun t188105 => (if t188105 = true then ((impl_Board_places.f k a0_0 a0_1 a0_2 l0_3 a1 a2).bind fun t188106 => ((slices_Max_int_int.f t188106).bind fun t188112 => (impl_LikeliestAt.l0 k (([] : List Int)) t188112 t188106 (t188106.length : Int) 0))) else (some (([] : List Int), false)))
theorem impl_LikeliestAt.mono_l : ∀ k, (∀ y0 y1 y2 y3 y4, LeO (impl_LikeliestAt.l0 k y0 y1 y2 y3 y4) (impl_LikeliestAt.l0 (k + 1) y0 y1 y2 y3 y4))
  | 0 => fun _ _ _ _ _ r h => by simp [impl_LikeliestAt.l0] at h
  | k + 1 => by
    have ih0 := impl_LikeliestAt.mono_l k
    · intro y0 y1 y2 y3 y4
      unfold impl_LikeliestAt.l0
      repeat' first
      | (with_reducible exact ih0 _ _ _ _ _)
      | (with_reducible exact impl_Board_places.mono _ _ _ _ _ _ _)
      | (with_reducible exact impl_isThrown.mono _ _ _ _ _ _ _ _)
      | (with_reducible exact LeO.refl _)
      | (with_reducible exact LeO.none _)
      | (with_reducible refine LeO.ite ?_ ?_)
      | (with_reducible refine LeO.bind ?_ (fun _ => ?_))
      | exact ih0 _ _ _ _ _
      | exact impl_Board_places.mono _ _ _ _ _ _ _
      | exact impl_isThrown.mono _ _ _ _ _ _ _ _
      | exact LeO.none _
      | refine LeO.ite ?_ ?_
      | refine LeO.bind ?_ (fun _ => ?_)
theorem impl_LikeliestAt.mono : ∀ a0 a1 a2 a3 a4 a5 k, LeO (impl_LikeliestAt.f k a0 a1 a2 a3 a4 a5) (impl_LikeliestAt.f (k + 1) a0 a1 a2 a3 a4 a5) := by
  intro a0 a1 a2 a3 a4 a5 k
  have ih0 := impl_LikeliestAt.mono_l k
  unfold impl_LikeliestAt.f
  repeat' first
      | (with_reducible exact ih0 _ _ _ _ _)
      | (with_reducible exact impl_Board_places.mono _ _ _ _ _ _ _)
      | (with_reducible exact impl_isThrown.mono _ _ _ _ _ _ _ _)
      | (with_reducible exact LeO.refl _)
      | (with_reducible exact LeO.none _)
      | (with_reducible refine LeO.ite ?_ ?_)
      | (with_reducible refine LeO.bind ?_ (fun _ => ?_))
      | exact ih0 _ _ _ _ _
      | exact impl_Board_places.mono _ _ _ _ _ _ _
      | exact impl_isThrown.mono _ _ _ _ _ _ _ _
      | exact LeO.none _
      | refine LeO.ite ?_ ?_
      | refine LeO.bind ?_ (fun _ => ?_)
set_option maxHeartbeats 8000000 in
set_option maxRecDepth 100000 in
theorem impl_LikeliestAt.calls (k : Nat) (a0_0 : Int) (a0_1 : Int) (a0_2 : Int) (A0_3 : Option Addr) (c0_3 : Nat) (l0_3 : List (S27)) (a1 : Int) (a2 : Int) (r1 : List Int) (r2 : Bool) (w : World) (hr0_3 : Kd.C k27 w A0_3 l0_3.length l0_3) (hc0_3 : l0_3.length ≤ c0_3) (h : impl_LikeliestAt.f k a0_0 a0_1 a0_2 l0_3 a1 a2 = some (r1, r2)) :
    Calls Try.prog 94 #[.agg #[.int .i64 a0_0, .int .i64 a0_1, .int .i64 a0_2, .slice A0_3 l0_3.length c0_3], .int .i64 a1, .int .i64 a2] w fun e w' => ∃ v0_ : Value, e = .returned (.tuple #[v0_, .bool r2]) ∧ Kd.R (Kd.int .i64) 3 w' w.heap.size (fun _ => True) v0_ r1 ∧ Below w.heap.size w w' := by
  have hu32 := Try.underlying32
  have HR0_3 := Aside0.mk hr0_3
  have HC0_3 := Aside0.mk hc0_3
  clear hr0_3 hc0_3
  have HB := Aside0.mk (Below.refl w.heap.size w)
  have H : ((impl_isThrown.f k a0_0 a0_1 a0_2 l0_3 a2 20 (([a1] : List Int))).bind fun t188105 => (if t188105 = true then ((impl_Board_places.f k a0_0 a0_1 a0_2 l0_3 a1 a2).bind fun t188106 => ((slices_Max_int_int.f t188106).bind fun t188112 => (impl_LikeliestAt.l0 k (([] : List Int)) t188112 t188106 (t188106.length : Int) 0))) else (some (([] : List Int), false)))) = some (r1, r2) := h
  clear h
  obtain ⟨y188102, hy188102⟩ : ∃ y_ : List Int, y_ = (([a1] : List Int)) := ⟨_, rfl⟩
  replace H : ((impl_isThrown.f k a0_0 a0_1 a0_2 l0_3 a2 20 y188102).bind fun t188105 => (if t188105 = true then ((impl_Board_places.f k a0_0 a0_1 a0_2 l0_3 a1 a2).bind fun t188106 => ((slices_Max_int_int.f t188106).bind fun t188112 => (impl_LikeliestAt.l0 k (([] : List Int)) t188112 t188106 (t188106.length : Int) 0))) else (some (([] : List Int), false)))) = some (r1, r2) := by first | (rw [hy188102]; with_reducible exact H) | (have H2_ := (Option.bind_some _ _).symm.trans H; rw [hy188102]; with_reducible exact H2_) | (have H2_ := (Option.bind_some _ _).symm.trans H; with_reducible exact H2_) | with_reducible exact H | (rw [hy188102]; exact H) | exact H
  have Ny188102 := Aside0.mk hy188102
  clear hy188102
  replace H := Option.bind_eq_some_iff.mp H
  obtain ⟨t188105, A40, H⟩ := H
  replace H : (if t188105 = true then ((impl_Board_places.f k a0_0 a0_1 a0_2 l0_3 a1 a2).bind fun t188106 => ((slices_Max_int_int.f t188106).bind fun t188112 => (impl_LikeliestAt.l0 k (([] : List Int)) t188112 t188106 (t188106.length : Int) 0))) else (some (([] : List Int), false))) = some (r1, r2) := H
  have A4 := Aside0.mk A40
  clear A40
  by_cases c5 : t188105 = true
  · subst c5
    have H1 : ((impl_Board_places.f k a0_0 a0_1 a0_2 l0_3 a1 a2).bind fun t188106 => ((slices_Max_int_int.f t188106).bind fun t188112 => (impl_LikeliestAt.l0 k (([] : List Int)) t188112 t188106 (t188106.length : Int) 0))) = some (r1, r2) := by rw [if_pos rfl] at H; exact H
    clear H
    have H := H1
    clear H1
    replace H := Option.bind_eq_some_iff.mp H
    obtain ⟨t188106, A60, H⟩ := H
    replace H : ((slices_Max_int_int.f t188106).bind fun t188112 => (impl_LikeliestAt.l0 k (([] : List Int)) t188112 t188106 (t188106.length : Int) 0)) = some (r1, r2) := H
    have A6 := Aside0.mk A60
    clear A60
    obtain ⟨y188109, hy188109⟩ : ∃ y_ : List Int, y_ = (([] : List Int)) := ⟨_, rfl⟩
    replace H : ((slices_Max_int_int.f t188106).bind fun t188112 => (impl_LikeliestAt.l0 k y188109 t188112 t188106 (t188106.length : Int) 0)) = some (r1, r2) := by first | (rw [hy188109]; with_reducible exact H) | (have H2_ := (Option.bind_some _ _).symm.trans H; rw [hy188109]; with_reducible exact H2_) | (have H2_ := (Option.bind_some _ _).symm.trans H; with_reducible exact H2_) | with_reducible exact H | (rw [hy188109]; exact H) | exact H
    have Ny188109 := Aside0.mk hy188109
    clear hy188109
    replace H := Option.bind_eq_some_iff.mp H
    obtain ⟨t188112, A70, H⟩ := H
    replace H : (impl_LikeliestAt.l0 k y188109 t188112 t188106 (t188106.length : Int) 0) = some (r1, r2) := H
    have A7 := Aside0.mk A70
    clear A70
    have H' := Aside0.mk H
    clear H
    go_enter Try.func94, Try.ntmps94
    go_wp2_with (first | ((with_reducible refine gate_dst (N := 3) rfl ?_); refine box_event ?hg (N := 3) ?hd (cs := #[.int .i64 a0_0, .int .i64 a0_1, .int .i64 a0_2, .slice A0_3 l0_3.length c0_3]) (t := 32) ?hr ?_; (case hd => rfl); (case hg => rfl); (case hr => first | (go_simp; done) | (go_simp; rfl)); intro gb188101 hg w8 hbox hb; have n0_ := Aside0.mk (below_step (by repeat (first | (with_reducible first | exact HB.out | apply below_alloc | apply pw_below_drewN | apply below_drew1) | exact HB.out)) hb); have n1_ := Aside0.mk (hbox); have n2_ := Aside0.mk ((by rw [hg]; exact (below_size (by repeat (first | (with_reducible first | exact HB.out | apply below_alloc | apply pw_below_drewN | apply below_drew1) | exact HB.out))) : w.heap.size ≤ gb188101)); have n3_ := Aside0.mk ((by rw [hg]; exact (below_size (by repeat (first | (with_reducible first | exact HB.out | apply below_alloc | apply pw_below_drewN | apply below_drew1) | exact HB.out))) : w.heap.size ≤ gb188101)); clear HB; have HB := n0_; have BK188101 := n1_; have GW188101 := n2_; have GE188101 := n3_; clear n0_ n1_ n2_ n3_; clear hb hbox hg; have hcz9_0 : w8.cell? ⟨gb188101, 0, none⟩ = some (.int .i64 a0_0) := (blk_cell BK188101.out 0).trans rfl; have hcz9_1 : w8.cell? ⟨gb188101, 1, none⟩ = some (.int .i64 a0_1) := (blk_cell BK188101.out 1).trans rfl; have hcz9_2 : w8.cell? ⟨gb188101, 2, none⟩ = some (.int .i64 a0_2) := (blk_cell BK188101.out 2).trans rfl; have hcz9_3 : w8.cell? ⟨gb188101, 3, none⟩ = some (.slice A0_3 l0_3.length c0_3) := (blk_cell BK188101.out 3).trans rfl; have hfz9_0 := blk_frozen BK188101.out 0; have hfz9_1 := blk_frozen BK188101.out 1; have hfz9_2 := blk_frozen BK188101.out 2; have hfz9_3 := blk_frozen BK188101.out 3) | ((with_reducible refine gate_dst (N := 16) rfl ?_); refine Kd.R_lit (Kd.int .i64) _ 3 ?hg (N := 16) ?hd (xs := ([a1] : List Int)) (inner := [.int .i64 a1]) (ok := fun _ => True) (okp := fun _ => True) ?hr ?hp (fun _ hk => hk) trivial (Below.refl _ _) (Nat.le_refl _) (by simp) ?_; (case hd => rfl); (case hg => rfl); (case hr => first | (go_simp; done) | (go_simp; rfl)); (case hp => exact (Reps.one (show Kd.M (Kd.int .i64) _ _ _ a1 [.int .i64 a1] from rfl) (Reps.none _ _))); intro v188103 w10 ho11 hb hg_ hnew_; clear hg_ hnew_; (first | rw [← Ny188102.out] at ho11 | (simp only [Int.reduceToNat] at ho11; rw [← Ny188102.out] at ho11)); have n0_ := Aside0.mk (Kd.R_lower ho11 (below_size (by repeat (first | (with_reducible first | exact HB.out | apply below_alloc | apply pw_below_drewN | apply below_drew1 | refine below_set ?_ GE188101.out) | exact HB.out)))); have n1_ := Aside0.mk (blk_below (g := gb188101) (o := .cells #[.int .i64 a0_0, .int .i64 a0_1, .int .i64 a0_2, .slice A0_3 l0_3.length c0_3] 32 (0, 0)) (by (with_reducible repeat (first | refine blk_drewN ?_ _ | refine blk_drew ?_ | refine blk_alloc ?_ _)); exact BK188101.out) hb); have n2_ := Aside0.mk (below_step (by repeat (first | (with_reducible first | exact HB.out | apply below_alloc | apply pw_below_drewN | apply below_drew1 | refine below_set ?_ GE188101.out) | exact HB.out)) hb); clear BK188101; clear HB; have HO188104 := n0_; have BK188101 := n1_; have HB := n2_; clear n0_ n1_ n2_; clear hb ho11; obtain ⟨Ao12, co12, eo12⟩ := Kd.R_slice HO188104.out; subst eo12) | ((with_reducible refine gate_callee (f := 158) rfl ?_); refine goesL_ (some 17) rfl rfl Try.func158 (by kernel_rfl) rfl #[.agg #[.int .i64 a0_0, .int .i64 a0_1, .int .i64 a0_2, .slice A0_3 l0_3.length c0_3], .int .i64 a2, .int .i64 20, .slice Ao12 y188102.length co12] rfl (by (try simp only [List.map_toArray, List.map_cons, List.map_nil]); first | done | rfl | (simp only [List.length_drop, List.length_take]; rfl)) ?_; (with_reducible refine (impl_isThrown.calls k a0_0 a0_1 a0_2 _ _ l0_3 a2 20 _ _ y188102 true _ ?side1 ?side2 ?side3 ?side4 A4.out).mono ?_); (case side1 => repeat (first | exact (Kd.C_below HR0_3.out HB.out) | (with_reducible refine Kd.C_alloc ?_ _) | (with_reducible refine Kd.C_drewN ?_ _) | (with_reducible refine Kd.C_drew ?_))); (case side2 => exact HC0_3.out); (case side3 => repeat (first | exact (Kd.R_reads' HO188104.out).2.2 | (with_reducible refine Kd.C_alloc ?_ _) | (with_reducible refine Kd.C_drewN ?_ _) | (with_reducible refine Kd.C_drew ?_))); (case side4 => exact (Kd.R_reads' HO188104.out).2.1); rintro e w13 ⟨rfl, hb⟩; refine ⟨_, rfl, ?_⟩; have n0_ := Aside0.mk (Kd.R_below (by (with_reducible repeat (first | apply Kd.R_alloc | apply Kd.R_drewN | apply Kd.R_drew)); exact HO188104.out) hb); have n1_ := Aside0.mk (blk_below (g := gb188101) (o := .cells #[.int .i64 a0_0, .int .i64 a0_1, .int .i64 a0_2, .slice A0_3 l0_3.length c0_3] 32 (0, 0)) (by (with_reducible repeat (first | refine blk_drewN ?_ _ | refine blk_drew ?_ | refine blk_alloc ?_ _)); exact BK188101.out) hb); have n2_ := Aside0.mk (below_step (by repeat (first | (with_reducible first | exact HB.out | apply below_alloc | apply pw_below_drewN | apply below_drew1 | refine below_set ?_ GE188101.out) | exact HB.out)) hb); clear HO188104; clear BK188101; clear HB; have HO188104 := n0_; have BK188101 := n1_; have HB := n2_; clear n0_ n1_ n2_; (try clear hb); (try clear hb2); (try clear hk); (try clear hi); have hcz14_0 : w13.cell? ⟨gb188101, 0, none⟩ = some (.int .i64 a0_0) := (blk_cell BK188101.out 0).trans rfl; have hcz14_1 : w13.cell? ⟨gb188101, 1, none⟩ = some (.int .i64 a0_1) := (blk_cell BK188101.out 1).trans rfl; have hcz14_2 : w13.cell? ⟨gb188101, 2, none⟩ = some (.int .i64 a0_2) := (blk_cell BK188101.out 2).trans rfl; have hcz14_3 : w13.cell? ⟨gb188101, 3, none⟩ = some (.slice A0_3 l0_3.length c0_3) := (blk_cell BK188101.out 3).trans rfl; have hfz14_0 := blk_frozen BK188101.out 0; have hfz14_1 := blk_frozen BK188101.out 1; have hfz14_2 := blk_frozen BK188101.out 2; have hfz14_3 := blk_frozen BK188101.out 3) | ((with_reducible refine gate_callee (f := 159) rfl ?_); refine goesL_ (some 22) rfl rfl Try.func159 (by kernel_rfl) rfl #[.agg #[.int .i64 a0_0, .int .i64 a0_1, .int .i64 a0_2, .slice A0_3 l0_3.length c0_3], .int .i64 a1, .int .i64 a2] rfl (by (try simp only [List.map_toArray, List.map_cons, List.map_nil]); first | done | rfl | (simp only [List.length_drop, List.length_take]; rfl)) ?_; (with_reducible refine (impl_Board_places.calls k a0_0 a0_1 a0_2 _ _ l0_3 a1 a2 t188106 _ ?side1 ?side2 A6.out).mono ?_); (case side1 => repeat (first | exact (Kd.C_below HR0_3.out HB.out) | (with_reducible refine Kd.C_alloc ?_ _) | (with_reducible refine Kd.C_drewN ?_ _) | (with_reducible refine Kd.C_drew ?_))); (case side2 => exact HC0_3.out); rintro e w15 ⟨v188107, rfl, ho0, hb⟩; refine ⟨_, rfl, ?_⟩; have n0_ := Aside0.mk (Kd.R_elder' (by (with_reducible repeat (first | apply Kd.R_alloc | apply Kd.R_drewN | apply Kd.R_drew)); exact HO188104.out) (Kd.R_base ho0) hb); have n1_ := Aside0.mk (Kd.R_lower (Kd.R_new' ho0 (Kd.R_lt (by (with_reducible repeat (first | apply Kd.R_alloc | apply Kd.R_drewN | apply Kd.R_drew)); exact HO188104.out))) (below_size (by repeat (first | (with_reducible first | exact HB.out | apply below_alloc | apply pw_below_drewN | apply below_drew1 | refine below_set ?_ GE188101.out) | exact HB.out)))); have n2_ := Aside0.mk (blk_below (g := gb188101) (o := .cells #[.int .i64 a0_0, .int .i64 a0_1, .int .i64 a0_2, .slice A0_3 l0_3.length c0_3] 32 (0, 0)) (by (with_reducible repeat (first | refine blk_drewN ?_ _ | refine blk_drew ?_ | refine blk_alloc ?_ _)); exact BK188101.out) hb); have n3_ := Aside0.mk (below_step (by repeat (first | (with_reducible first | exact HB.out | apply below_alloc | apply pw_below_drewN | apply below_drew1 | refine below_set ?_ GE188101.out) | exact HB.out)) hb); clear HO188104; clear BK188101; clear HB; have HO188104 := n0_; have HO188108 := n1_; have BK188101 := n2_; have HB := n3_; clear n0_ n1_ n2_ n3_; (try clear hb); (try clear hb2); (try clear hk); (try clear hi); (try clear ho0)) | ((with_reducible refine gate_dst (N := 23) rfl ?_); refine Kd.R_lit (Kd.int .i64) _ 3 ?hg (N := 23) ?hd (xs := ([] : List Int)) (inner := []) (ok := fun _ => True) (okp := fun _ => True) ?hr ?hp (fun _ hk => hk) trivial (Below.refl _ _) (Nat.le_refl _) (by simp) ?_; (case hd => rfl); (case hg => rfl); (case hr => first | (go_simp; done) | (go_simp; rfl)); (case hp => exact (Reps.none _ _)); intro v188110 w16 ho17 hb hg_ hnew_; clear hg_ hnew_; (first | rw [← Ny188109.out] at ho17 | (simp only [Int.reduceToNat] at ho17; rw [← Ny188109.out] at ho17)); have n0_ := Aside0.mk (Kd.R_elder' (by (with_reducible repeat (first | apply Kd.R_alloc | apply Kd.R_drewN | apply Kd.R_drew)); exact HO188104.out) (Kd.R_base ho17) hb); have n1_ := Aside0.mk (Kd.R_elder' (by (with_reducible repeat (first | apply Kd.R_alloc | apply Kd.R_drewN | apply Kd.R_drew)); exact HO188108.out) (Kd.R_base ho17) hb); have n2_ := Aside0.mk (Kd.R_lower (Kd.R_new' (Kd.R_new' ho17 (Kd.R_lt (by (with_reducible repeat (first | apply Kd.R_alloc | apply Kd.R_drewN | apply Kd.R_drew)); exact HO188104.out))) (Kd.R_lt (by (with_reducible repeat (first | apply Kd.R_alloc | apply Kd.R_drewN | apply Kd.R_drew)); exact HO188108.out))) (below_size (by repeat (first | (with_reducible first | exact HB.out | apply below_alloc | apply pw_below_drewN | apply below_drew1 | refine below_set ?_ GE188101.out) | exact HB.out)))); have n3_ := Aside0.mk (blk_below (g := gb188101) (o := .cells #[.int .i64 a0_0, .int .i64 a0_1, .int .i64 a0_2, .slice A0_3 l0_3.length c0_3] 32 (0, 0)) (by (with_reducible repeat (first | refine blk_drewN ?_ _ | refine blk_drew ?_ | refine blk_alloc ?_ _)); exact BK188101.out) hb); have n4_ := Aside0.mk (below_step (by repeat (first | (with_reducible first | exact HB.out | apply below_alloc | apply pw_below_drewN | apply below_drew1 | refine below_set ?_ GE188101.out) | exact HB.out)) hb); clear HO188104; clear HO188108; clear BK188101; clear HB; have HO188104 := n0_; have HO188108 := n1_; have HO188111 := n2_; have BK188101 := n3_; have HB := n4_; clear n0_ n1_ n2_ n3_ n4_; clear hb ho17; obtain ⟨Ao18, co18, eo18⟩ := Kd.R_slice HO188108.out; subst eo18) | ((with_reducible refine gate_callee (f := 165) rfl ?_); refine goesL_ (some 25) rfl rfl Try.func165 (by kernel_rfl) rfl #[.slice Ao18 t188106.length co18] rfl (by (try simp only [List.map_toArray, List.map_cons, List.map_nil]); first | done | rfl | (simp only [List.length_drop, List.length_take]; rfl)) ?_; (with_reducible refine (slices_Max_int_int.calls _ _ t188106 t188112 _ ?side1 ?side2 A7.out).mono ?_); (case side1 => repeat (first | exact (Kd.R_reads' HO188108.out).2.2 | (with_reducible refine Kd.C_alloc ?_ _) | (with_reducible refine Kd.C_drewN ?_ _) | (with_reducible refine Kd.C_drew ?_))); (case side2 => exact (Kd.R_reads' HO188108.out).2.1); rintro e w' ⟨rfl, ⟨nd, rfl⟩⟩; refine ⟨_, rfl, ?_⟩))
    go_loopg [9, 28] k (fun kq v9 v28 w' => ∃ (x9_1 : List Int) (x28_1 : Int), v28 = .int .i64 x28_1 ∧ Aside0 (impl_LikeliestAt.l0 kq x9_1 t188112 t188106 (t188106.length : Int) x28_1 = some (r1, r2)) ∧ Aside0 (kq ≤ k) ∧ Aside0 (Kd.R (Kd.int .i64) 3 w' w.heap.size (fun k_ => some k_ ≠ ((.slice Ao18 t188106.length co18) : Value).ownBlock) v9 x9_1) ∧ Aside0 (Kd.R (Kd.int .i64) 3 w' w.heap.size (fun k_ => some k_ ≠ (v9 : Value).ownBlock) (.slice Ao18 t188106.length co18) t188106) ∧ Aside0 (w'.heap[gb188101]? = some (.cells #[.int .i64 a0_0, .int .i64 a0_1, .int .i64 a0_2, (.slice A0_3 l0_3.length c0_3)] 32 (0, 0))) ∧ Aside0 (Below w.heap.size w w'))
    case atStart => exact ⟨(y188109), (0), (by first | rfl | (simp; done) | (simp [*]; done)), H', ⟨Nat.le_refl _⟩, ⟨by (with_reducible repeat (first | apply Kd.R_alloc | apply Kd.R_drewN | apply Kd.R_drew)); exact Kd.R_mono HO188111.out (fun _ hk => hk.2)⟩, ⟨by (with_reducible repeat (first | apply Kd.R_alloc | apply Kd.R_drewN | apply Kd.R_drew)); exact Kd.R_mono HO188108.out (fun _ hk => hk.2)⟩, ⟨by (with_reducible repeat (first | refine blk_drewN ?_ _ | refine blk_drew ?_ | refine blk_alloc ?_ _)); exact BK188101.out⟩, ⟨by repeat (first | (with_reducible first | exact HB.out | apply below_alloc | apply pw_below_drewN | apply below_drew1 | refine below_set ?_ GE188101.out) | exact HB.out)⟩⟩
    case round =>
      clear H'
      try clear c1
      try clear p2
      try clear c5
      try clear c9
      try clear c15
      try clear c16
      try clear hcz14_0
      try clear hcz14_1
      try clear hcz14_2
      try clear hcz14_3
      try clear hcz9_0
      try clear hcz9_1
      try clear hcz9_2
      try clear hcz9_3
      try clear hfz14_0
      try clear hfz14_1
      try clear hfz14_2
      try clear hfz14_3
      try clear hfz9_0
      try clear hfz9_1
      try clear hfz9_2
      try clear hfz9_3
      obtain ⟨x9_1, x28_1, rfl, HA, HK1, HO_9, HO_26, BK188101, HB⟩ := hrel
      cases gk with
      | zero => exact absurd HA.out (by simp [impl_LikeliestAt.l0])
      | succ k1 =>
        have H := HA.out
        clear HA
        simp only [impl_LikeliestAt.l0] at H
        by_cases c19 : x28_1 < (t188106.length : Int)
        · rw [if_pos c19] at H
          have c19b0 : decide (x28_1 < (t188106.length : Int)) = true := decide_eq_true c19
          clear c19
          by_cases c20 : 0 ≤ x28_1
          · rw [if_pos c20] at H
            have c20b0 : decide (0 ≤ x28_1) = true := decide_eq_true c20
            clear c20
            by_cases c21 : x28_1 < (t188106.length : Int)
            · rw [if_pos c21] at H
              have c21b0 : decide (x28_1 < (t188106.length : Int)) = true := decide_eq_true c21
              clear c21
              by_cases c22 : (rd t188106 x28_1) = t188112
              · rw [if_pos c22] at H
                have c22b0 : ((rd t188106 x28_1) == t188112) = true := beq_iff_eq.mpr c22
                have c22b1 : ((rd t188106 x28_1) != t188112) = false := bne_eq_false_iff_eq.mpr c22
                clear c22
                by_cases c23 : x9_1.length < 17592186044416
                · rw [if_pos c23] at H
                  have LMc23 := Aside0.mk c23
                  clear c23
                  obtain ⟨y188114, hy188114⟩ : ∃ y_ : List Int, y_ = (x9_1 ++ [x28_1]) := ⟨_, rfl⟩
                  replace H : (impl_LikeliestAt.l0 k1 y188114 t188112 t188106 (t188106.length : Int) (wrap64 (x28_1 + 1))) = some (r1, r2) := by first | (rw [hy188114]; with_reducible exact H) | (have H2_ := (Option.bind_some _ _).symm.trans H; rw [hy188114]; with_reducible exact H2_) | (have H2_ := (Option.bind_some _ _).symm.trans H; with_reducible exact H2_) | with_reducible exact H | (rw [hy188114]; exact H) | exact H
                  have Ny188114 := Aside0.mk hy188114
                  clear hy188114
                  have H' := Aside0.mk H
                  clear H
                  have p188113 : 0 ≤ (x28_1 : Int) := of_decide_eq_true (by first | (with_reducible assumption) | assumption)
                  have q188113 : x28_1 < (t188106.length : Int) := of_decide_eq_true (by first | (with_reducible assumption) | assumption)
                  obtain ⟨ad188113, e188113, hx188113_0⟩ := Kd.at_int (Kd.R_reads' HO_26.out).2.2 x28_1 p188113 q188113
                  cases e188113
                  replace p188113 := eq_true p188113
                  replace q188113 := eq_true q188113
                  go_wp2_with (first | ((with_reducible refine gate_builtin (b := .append) (xs := #[.tmp 36, .tmp 38]) rfl ?_); at_builtin; refine Kd.R_append (Kd.int .i64) (w0 := w) w.heap.size rfl (.tmp 36) (.tmp 38) 58 3 (.int .i64 0) 8 rfl Try.underlying58 info3 rfl (by decide) (by omega) u9 x9_1 x28_1 [.int .i64 x28_1] (fun k_ => some k_ ≠ (.slice (some ad188113) t188106.length co18 : Value).ownBlock) (fun _ => False) rfl rfl ?aP (fun _ hk => hk.elim) ?aF ?aO ?aB ?aS ?aL ?_; (case aP => exact rfl); (case aB => exact (by repeat (first | (with_reducible first | exact HB.out | apply below_alloc | apply pw_below_drewN | apply below_drew1 | refine below_set ?_ GE188101.out) | exact HB.out))); (case aF => exact (fun k_ hk => Kd.fresh' (Kd.R_lt (by (with_reducible repeat (first | apply Kd.R_alloc | apply Kd.R_drewN | apply Kd.R_drew)); exact HO_26.out)) k_ hk)); (case aO => exact (by (with_reducible repeat (first | apply Kd.R_alloc | apply Kd.R_drewN | apply Kd.R_drew)); exact HO_9.out)); (case aS => exact (below_size (by repeat (first | (with_reducible first | exact HB.out | apply below_alloc | apply pw_below_drewN | apply below_drew1 | refine below_set ?_ GE188101.out) | exact HB.out)))); (case aL => have := LMc23.out; omega); intro v188115 w24 ho hb hg hat; rw [← Ny188114.out] at ho; have n0_ := Aside0.mk (Kd.R_after (ok := (fun _ => True)) (by (with_reducible repeat (first | apply Kd.R_alloc | apply Kd.R_drewN | apply Kd.R_drew)); exact Kd.R_mono HO_26.out (fun _ hk => ⟨trivial, hk⟩)) hg hat); have n1_ := Aside0.mk (blk_grown (g := gb188101) (o := .cells #[.int .i64 a0_0, .int .i64 a0_1, .int .i64 a0_2, .slice A0_3 l0_3.length c0_3] 32 (0, 0)) (by (with_reducible repeat (first | refine blk_drewN ?_ _ | refine blk_drew ?_ | refine blk_alloc ?_ _)); exact BK188101.out) hg (Kd.R_ne HO_9.out BK188101.out (by decide))); have n2_ := Aside0.mk (hb); have n3_ := Aside0.mk (ho); clear HO_26; clear BK188101; clear HB; clear HO_9; have HO_26 := n0_; have BK188101 := n1_; have HB := n2_; have HO188116 := n3_; clear n0_ n1_ n2_ n3_; clear ho hb hg hat))
                  go_roundg k1
                  case measure => have := HK1.out; omega
                  case rel => exact ⟨(y188114), (wrap64 (x28_1 + 1)), (by first | rfl | (simp; done) | (simp [*]; done)), H', ⟨by have := HK1.out; omega⟩, ⟨by (with_reducible repeat (first | apply Kd.R_alloc | apply Kd.R_drewN | apply Kd.R_drew)); exact HO188116.out⟩, ⟨by (with_reducible repeat (first | apply Kd.R_alloc | apply Kd.R_drewN | apply Kd.R_drew)); exact Kd.R_mono HO_26.out (fun _ hk => hk.2)⟩, ⟨by (with_reducible repeat (first | refine blk_drewN ?_ _ | refine blk_drew ?_ | refine blk_alloc ?_ _)); exact BK188101.out⟩, ⟨by repeat (first | (with_reducible first | exact HB.out | apply below_alloc | apply pw_below_drewN | apply below_drew1 | refine below_set ?_ GE188101.out) | exact HB.out)⟩⟩
                · rw [if_neg c23] at H
                  exact absurd H (by simp)
              · rw [if_neg c22] at H
                have c22b0 : ((rd t188106 x28_1) == t188112) = false := beq_eq_false_iff_ne.mpr c22
                have c22b1 : ((rd t188106 x28_1) != t188112) = true := bne_iff_ne.mpr c22
                have H' := Aside0.mk H
                clear H
                have p188113 : 0 ≤ (x28_1 : Int) := of_decide_eq_true (by first | (with_reducible assumption) | assumption)
                have q188113 : x28_1 < (t188106.length : Int) := of_decide_eq_true (by first | (with_reducible assumption) | assumption)
                obtain ⟨ad188113, e188113, hx188113_0⟩ := Kd.at_int (Kd.R_reads' HO_26.out).2.2 x28_1 p188113 q188113
                cases e188113
                replace p188113 := eq_true p188113
                replace q188113 := eq_true q188113
                go_wp2
                go_roundg k1
                case measure => have := HK1.out; omega
                case rel => exact ⟨(x9_1), (wrap64 (x28_1 + 1)), (by first | rfl | (simp; done) | (simp [*]; done)), H', ⟨by have := HK1.out; omega⟩, ⟨by (with_reducible repeat (first | apply Kd.R_alloc | apply Kd.R_drewN | apply Kd.R_drew)); exact HO_9.out⟩, ⟨by (with_reducible repeat (first | apply Kd.R_alloc | apply Kd.R_drewN | apply Kd.R_drew)); exact HO_26.out⟩, ⟨by (with_reducible repeat (first | refine blk_drewN ?_ _ | refine blk_drew ?_ | refine blk_alloc ?_ _)); exact BK188101.out⟩, ⟨by repeat (first | (with_reducible first | exact HB.out | apply below_alloc | apply pw_below_drewN | apply below_drew1 | refine below_set ?_ GE188101.out) | exact HB.out)⟩⟩
            · rw [if_neg c21] at H
              exact absurd H (by simp)
          · rw [if_neg c20] at H
            exact absurd H (by simp)
        · rw [if_neg c19] at H
          have c19b0 : decide (x28_1 < (t188106.length : Int)) = false := decide_eq_false c19
          clear c19
          simp only [Option.some.injEq, Prod.mk.injEq] at H
          obtain ⟨rfl, rfl⟩ := H
          go_wp2
          go_ret2
          exact ⟨_, by first | rfl | (simp [errW_none, errW_some] <;> rfl) | (simp [*, errW_none, errW_some] <;> rfl), by (with_reducible repeat (first | apply Kd.R_alloc | apply Kd.R_drewN | apply Kd.R_drew)); exact Kd.R_mono HO_9.out (fun _ hk => trivial), by repeat (first | (with_reducible first | exact HB.out | apply below_alloc | apply pw_below_drewN | apply below_drew1 | refine below_set ?_ GE188101.out) | exact HB.out)⟩
  · replace c5 := Bool.eq_false_iff.mpr c5
    subst c5
    have H1 : (some (([] : List Int), false)) = some (r1, r2) := by rw [if_neg (show ¬ (false = true) by decide)] at H; exact H
    clear H
    have H := H1
    clear H1
    simp only [Option.some.injEq, Prod.mk.injEq] at H
    obtain ⟨rfl, rfl⟩ := H
    go_enter Try.func94, Try.ntmps94
    go_wp2_with (first | ((with_reducible refine gate_dst (N := 3) rfl ?_); refine box_event ?hg (N := 3) ?hd (cs := #[.int .i64 a0_0, .int .i64 a0_1, .int .i64 a0_2, .slice A0_3 l0_3.length c0_3]) (t := 32) ?hr ?_; (case hd => rfl); (case hg => rfl); (case hr => first | (go_simp; done) | (go_simp; rfl)); intro gb188101 hg w25 hbox hb; have n0_ := Aside0.mk (below_step (by repeat (first | (with_reducible first | exact HB.out | apply below_alloc | apply pw_below_drewN | apply below_drew1) | exact HB.out)) hb); have n1_ := Aside0.mk (hbox); have n2_ := Aside0.mk ((by rw [hg]; exact (below_size (by repeat (first | (with_reducible first | exact HB.out | apply below_alloc | apply pw_below_drewN | apply below_drew1) | exact HB.out))) : w.heap.size ≤ gb188101)); have n3_ := Aside0.mk ((by rw [hg]; exact (below_size (by repeat (first | (with_reducible first | exact HB.out | apply below_alloc | apply pw_below_drewN | apply below_drew1) | exact HB.out))) : w.heap.size ≤ gb188101)); clear HB; have HB := n0_; have BK188101 := n1_; have GW188101 := n2_; have GE188101 := n3_; clear n0_ n1_ n2_ n3_; clear hb hbox hg; have hcz26_0 : w25.cell? ⟨gb188101, 0, none⟩ = some (.int .i64 a0_0) := (blk_cell BK188101.out 0).trans rfl; have hcz26_1 : w25.cell? ⟨gb188101, 1, none⟩ = some (.int .i64 a0_1) := (blk_cell BK188101.out 1).trans rfl; have hcz26_2 : w25.cell? ⟨gb188101, 2, none⟩ = some (.int .i64 a0_2) := (blk_cell BK188101.out 2).trans rfl; have hcz26_3 : w25.cell? ⟨gb188101, 3, none⟩ = some (.slice A0_3 l0_3.length c0_3) := (blk_cell BK188101.out 3).trans rfl; have hfz26_0 := blk_frozen BK188101.out 0; have hfz26_1 := blk_frozen BK188101.out 1; have hfz26_2 := blk_frozen BK188101.out 2; have hfz26_3 := blk_frozen BK188101.out 3) | ((with_reducible refine gate_dst (N := 16) rfl ?_); refine Kd.R_lit (Kd.int .i64) _ 3 ?hg (N := 16) ?hd (xs := ([a1] : List Int)) (inner := [.int .i64 a1]) (ok := fun _ => True) (okp := fun _ => True) ?hr ?hp (fun _ hk => hk) trivial (Below.refl _ _) (Nat.le_refl _) (by simp) ?_; (case hd => rfl); (case hg => rfl); (case hr => first | (go_simp; done) | (go_simp; rfl)); (case hp => exact (Reps.one (show Kd.M (Kd.int .i64) _ _ _ a1 [.int .i64 a1] from rfl) (Reps.none _ _))); intro v188103 w27 ho28 hb hg_ hnew_; clear hg_ hnew_; (first | rw [← Ny188102.out] at ho28 | (simp only [Int.reduceToNat] at ho28; rw [← Ny188102.out] at ho28)); have n0_ := Aside0.mk (Kd.R_lower ho28 (below_size (by repeat (first | (with_reducible first | exact HB.out | apply below_alloc | apply pw_below_drewN | apply below_drew1 | refine below_set ?_ GE188101.out) | exact HB.out)))); have n1_ := Aside0.mk (blk_below (g := gb188101) (o := .cells #[.int .i64 a0_0, .int .i64 a0_1, .int .i64 a0_2, .slice A0_3 l0_3.length c0_3] 32 (0, 0)) (by (with_reducible repeat (first | refine blk_drewN ?_ _ | refine blk_drew ?_ | refine blk_alloc ?_ _)); exact BK188101.out) hb); have n2_ := Aside0.mk (below_step (by repeat (first | (with_reducible first | exact HB.out | apply below_alloc | apply pw_below_drewN | apply below_drew1 | refine below_set ?_ GE188101.out) | exact HB.out)) hb); clear BK188101; clear HB; have HO188104 := n0_; have BK188101 := n1_; have HB := n2_; clear n0_ n1_ n2_; clear hb ho28; obtain ⟨Ao29, co29, eo29⟩ := Kd.R_slice HO188104.out; subst eo29) | ((with_reducible refine gate_callee (f := 158) rfl ?_); refine goesL_ (some 17) rfl rfl Try.func158 (by kernel_rfl) rfl #[.agg #[.int .i64 a0_0, .int .i64 a0_1, .int .i64 a0_2, .slice A0_3 l0_3.length c0_3], .int .i64 a2, .int .i64 20, .slice Ao29 y188102.length co29] rfl (by (try simp only [List.map_toArray, List.map_cons, List.map_nil]); first | done | rfl | (simp only [List.length_drop, List.length_take]; rfl)) ?_; (with_reducible refine (impl_isThrown.calls k a0_0 a0_1 a0_2 _ _ l0_3 a2 20 _ _ y188102 false _ ?side1 ?side2 ?side3 ?side4 A4.out).mono ?_); (case side1 => repeat (first | exact (Kd.C_below HR0_3.out HB.out) | (with_reducible refine Kd.C_alloc ?_ _) | (with_reducible refine Kd.C_drewN ?_ _) | (with_reducible refine Kd.C_drew ?_))); (case side2 => exact HC0_3.out); (case side3 => repeat (first | exact (Kd.R_reads' HO188104.out).2.2 | (with_reducible refine Kd.C_alloc ?_ _) | (with_reducible refine Kd.C_drewN ?_ _) | (with_reducible refine Kd.C_drew ?_))); (case side4 => exact (Kd.R_reads' HO188104.out).2.1); rintro e w30 ⟨rfl, hb⟩; refine ⟨_, rfl, ?_⟩; have n0_ := Aside0.mk (Kd.R_below (by (with_reducible repeat (first | apply Kd.R_alloc | apply Kd.R_drewN | apply Kd.R_drew)); exact HO188104.out) hb); have n1_ := Aside0.mk (blk_below (g := gb188101) (o := .cells #[.int .i64 a0_0, .int .i64 a0_1, .int .i64 a0_2, .slice A0_3 l0_3.length c0_3] 32 (0, 0)) (by (with_reducible repeat (first | refine blk_drewN ?_ _ | refine blk_drew ?_ | refine blk_alloc ?_ _)); exact BK188101.out) hb); have n2_ := Aside0.mk (below_step (by repeat (first | (with_reducible first | exact HB.out | apply below_alloc | apply pw_below_drewN | apply below_drew1 | refine below_set ?_ GE188101.out) | exact HB.out)) hb); clear HO188104; clear BK188101; clear HB; have HO188104 := n0_; have BK188101 := n1_; have HB := n2_; clear n0_ n1_ n2_; (try clear hb); (try clear hb2); (try clear hk); (try clear hi)))
    go_ret2
    exact ⟨_, by first | rfl | (simp [errW_none, errW_some] <;> rfl) | (simp [*, errW_none, errW_some] <;> rfl), by first | exact Kd.R_nil _ _ _ _ _ | exact Kd.N_nil _ _ _ _ _ | exact Kd.V_nil _ _ _ _ _ | exact Kd.Q_nil _ _ _ _ _ | exact Kd.S_nil _ _ _ _ _, by repeat (first | (with_reducible first | exact HB.out | apply below_alloc | apply pw_below_drewN | apply below_drew1 | refine below_set ?_ GE188101.out) | exact HB.out)⟩

end Go.Proofs.Ytkobjjadojpjfaa.Pr
