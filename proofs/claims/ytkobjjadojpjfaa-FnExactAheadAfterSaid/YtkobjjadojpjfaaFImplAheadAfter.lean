-- A text of the machine side, written by wip/gen.py of this repo out of the translation. Not trusted: Lean checks it.
import Derived.Test.YtkobjjadojpjfaaF0
import Derived.Test.YtkobjjadojpjfaaFGD
import Derived.Test.YtkobjjadojpjfaaFImplBoardPlaces
namespace Go.Proofs.Ytkobjjadojpjfaa.Pr
open Go.RowKit Go.Proofs.YtkobjjadojpjfaaW.PrintWords Go.Proofs.YtkobjjadojpjfaaW.PrintLast Go.Proofs.YtkobjjadojpjfaaW.PrintMore
attribute [local go_sem] max2_int min2_int max_two min_two max_three min_three max_four min_four   -- for this text's walks alone
set_option linter.unusedVariables false
set_option linter.unusedSimpArgs false

/-! ### impl_AheadAfter: function 84 -/
mutual
def impl_AheadAfter.l0 : Nat → Int → Int → Int → List Int → List Int → Int → Int → Option (Int × Int × Int × Bool)
  | 0, _, _, _, _, _, _, _ => none
  | k + 1, x12, x13, x14, x15, x34, x35, x36 => if x36 < x35 then (if 0 ≤ x36 then (if x36 < (x34.length : Int) then (impl_AheadAfter.l1 k x12 x13 x14 x15 x36 (rd x34 x36) x34 x35 x36 x15 (x15.length : Int) 0) else (none)) else (none)) else (some (x12, x13, x14, true))
def impl_AheadAfter.l1 : Nat → Int → Int → Int → List Int → Int → Int → List Int → Int → Int → List Int → Int → Int → Option (Int × Int × Int × Bool)
  | 0, _, _, _, _, _, _, _, _, _, _, _, _ => none
  | k + 1, x12, x13, x14, x15, x16, x17, x34, x35, x36, x41, x42, x43 => if x43 < x42 then (if 0 ≤ x43 then (if x43 < (x41.length : Int) then (if x16 > x43 then (impl_AheadAfter.l1 k (wrap64 (x12 + (wrap64 (x17 * (rd x41 x43))))) x13 x14 x15 x16 x17 x34 x35 x36 x41 x42 (wrap64 (x43 + 1))) else (if x16 = x43 then (impl_AheadAfter.l1 k x12 (wrap64 (x13 + (wrap64 (x17 * (rd x41 x43))))) x14 x15 x16 x17 x34 x35 x36 x41 x42 (wrap64 (x43 + 1))) else (impl_AheadAfter.l1 k x12 x13 (wrap64 (x14 + (wrap64 (x17 * (rd x41 x43))))) x15 x16 x17 x34 x35 x36 x41 x42 (wrap64 (x43 + 1))))) else (none)) else (none)) else (impl_AheadAfter.l0 k x12 x13 x14 x15 x34 x35 (wrap64 (x36 + 1)))
end
def impl_AheadAfter.f (k : Nat) (a0_0 : Int) (a0_1 : Int) (a0_2 : Int) (l0_3 : List (S27)) (a1 : Int) (a2 : Int) (a3 : Int) : Option (Int × Int × Int × Bool) := (impl_isThrown.f k a0_0 a0_1 a0_2 l0_3 a3 10 (([a1, a2] : List Int))).bind fun t168105 => (if t168105 = true then ((impl_Board_places.f k a0_0 a0_1 a0_2 l0_3 a2 a3).bind fun t168106 => ((impl_Board_places.f k a0_0 a0_1 a0_2 l0_3 a1 a3).bind fun t168109 => (impl_AheadAfter.l0 k 0 0 0 t168106 t168109 (t168109.length : Int) 0))) else (some (0, 0, 0, false)))
theorem impl_AheadAfter.mono_l : ∀ k, (∀ y0 y1 y2 y3 y4 y5 y6, LeO (impl_AheadAfter.l0 k y0 y1 y2 y3 y4 y5 y6) (impl_AheadAfter.l0 (k + 1) y0 y1 y2 y3 y4 y5 y6)) ∧ (∀ y0 y1 y2 y3 y4 y5 y6 y7 y8 y9 y10 y11, LeO (impl_AheadAfter.l1 k y0 y1 y2 y3 y4 y5 y6 y7 y8 y9 y10 y11) (impl_AheadAfter.l1 (k + 1) y0 y1 y2 y3 y4 y5 y6 y7 y8 y9 y10 y11))
  | 0 => ⟨fun _ _ _ _ _ _ _ r h => by simp [impl_AheadAfter.l0] at h, fun _ _ _ _ _ _ _ _ _ _ _ _ r h => by simp [impl_AheadAfter.l1] at h⟩
  | k + 1 => by
    obtain ⟨ih0, ih1⟩ := impl_AheadAfter.mono_l k
    refine ⟨?_, ?_⟩
    · intro y0 y1 y2 y3 y4 y5 y6
      unfold impl_AheadAfter.l0
      repeat' first
      | (with_reducible exact ih0 _ _ _ _ _ _ _)
      | (with_reducible exact ih1 _ _ _ _ _ _ _ _ _ _ _ _)
      | (with_reducible exact impl_Board_places.mono _ _ _ _ _ _ _)
      | (with_reducible exact impl_isThrown.mono _ _ _ _ _ _ _ _)
      | (with_reducible exact LeO.refl _)
      | (with_reducible exact LeO.none _)
      | (with_reducible refine LeO.ite ?_ ?_)
      | (with_reducible refine LeO.bind ?_ (fun _ => ?_))
      | exact ih0 _ _ _ _ _ _ _
      | exact ih1 _ _ _ _ _ _ _ _ _ _ _ _
      | exact impl_Board_places.mono _ _ _ _ _ _ _
      | exact impl_isThrown.mono _ _ _ _ _ _ _ _
      | exact LeO.none _
      | refine LeO.ite ?_ ?_
      | refine LeO.bind ?_ (fun _ => ?_)
    · intro y0 y1 y2 y3 y4 y5 y6 y7 y8 y9 y10 y11
      unfold impl_AheadAfter.l1
      repeat' first
      | (with_reducible exact ih0 _ _ _ _ _ _ _)
      | (with_reducible exact ih1 _ _ _ _ _ _ _ _ _ _ _ _)
      | (with_reducible exact impl_Board_places.mono _ _ _ _ _ _ _)
      | (with_reducible exact impl_isThrown.mono _ _ _ _ _ _ _ _)
      | (with_reducible exact LeO.refl _)
      | (with_reducible exact LeO.none _)
      | (with_reducible refine LeO.ite ?_ ?_)
      | (with_reducible refine LeO.bind ?_ (fun _ => ?_))
      | exact ih0 _ _ _ _ _ _ _
      | exact ih1 _ _ _ _ _ _ _ _ _ _ _ _
      | exact impl_Board_places.mono _ _ _ _ _ _ _
      | exact impl_isThrown.mono _ _ _ _ _ _ _ _
      | exact LeO.none _
      | refine LeO.ite ?_ ?_
      | refine LeO.bind ?_ (fun _ => ?_)
theorem impl_AheadAfter.mono : ∀ a0 a1 a2 a3 a4 a5 a6 k, LeO (impl_AheadAfter.f k a0 a1 a2 a3 a4 a5 a6) (impl_AheadAfter.f (k + 1) a0 a1 a2 a3 a4 a5 a6) := by
  intro a0 a1 a2 a3 a4 a5 a6 k
  obtain ⟨ih0, ih1⟩ := impl_AheadAfter.mono_l k
  unfold impl_AheadAfter.f
  repeat' first
      | (with_reducible exact ih0 _ _ _ _ _ _ _)
      | (with_reducible exact ih1 _ _ _ _ _ _ _ _ _ _ _ _)
      | (with_reducible exact impl_Board_places.mono _ _ _ _ _ _ _)
      | (with_reducible exact impl_isThrown.mono _ _ _ _ _ _ _ _)
      | (with_reducible exact LeO.refl _)
      | (with_reducible exact LeO.none _)
      | (with_reducible refine LeO.ite ?_ ?_)
      | (with_reducible refine LeO.bind ?_ (fun _ => ?_))
      | exact ih0 _ _ _ _ _ _ _
      | exact ih1 _ _ _ _ _ _ _ _ _ _ _ _
      | exact impl_Board_places.mono _ _ _ _ _ _ _
      | exact impl_isThrown.mono _ _ _ _ _ _ _ _
      | exact LeO.none _
      | refine LeO.ite ?_ ?_
      | refine LeO.bind ?_ (fun _ => ?_)
set_option maxHeartbeats 8000000 in
set_option maxRecDepth 100000 in
theorem impl_AheadAfter.calls (k : Nat) (a0_0 : Int) (a0_1 : Int) (a0_2 : Int) (A0_3 : Option Addr) (c0_3 : Nat) (l0_3 : List (S27)) (a1 : Int) (a2 : Int) (a3 : Int) (r1 : Int) (r2 : Int) (r3 : Int) (r4 : Bool) (w : World) (hr0_3 : Kd.C k27 w A0_3 l0_3.length l0_3) (hc0_3 : l0_3.length ≤ c0_3) (h : impl_AheadAfter.f k a0_0 a0_1 a0_2 l0_3 a1 a2 a3 = some (r1, r2, r3, r4)) :
    Calls Try.prog 84 #[.agg #[.int .i64 a0_0, .int .i64 a0_1, .int .i64 a0_2, .slice A0_3 l0_3.length c0_3], .int .i64 a1, .int .i64 a2, .int .i64 a3] w fun e w' => e = .returned (.tuple #[.int .i64 r1, .int .i64 r2, .int .i64 r3, .bool r4]) ∧ Below w.heap.size w w' := by
  have hu32 := Try.underlying32
  have HR0_3 := Aside0.mk hr0_3
  have HC0_3 := Aside0.mk hc0_3
  clear hr0_3 hc0_3
  have HB := Aside0.mk (Below.refl w.heap.size w)
  have H : ((impl_isThrown.f k a0_0 a0_1 a0_2 l0_3 a3 10 (([a1, a2] : List Int))).bind fun t168105 => (if t168105 = true then ((impl_Board_places.f k a0_0 a0_1 a0_2 l0_3 a2 a3).bind fun t168106 => ((impl_Board_places.f k a0_0 a0_1 a0_2 l0_3 a1 a3).bind fun t168109 => (impl_AheadAfter.l0 k 0 0 0 t168106 t168109 (t168109.length : Int) 0))) else (some (0, 0, 0, false)))) = some (r1, r2, r3, r4) := h
  clear h
  obtain ⟨y168102, hy168102⟩ : ∃ y_ : List Int, y_ = (([a1, a2] : List Int)) := ⟨_, rfl⟩
  replace H : ((impl_isThrown.f k a0_0 a0_1 a0_2 l0_3 a3 10 y168102).bind fun t168105 => (if t168105 = true then ((impl_Board_places.f k a0_0 a0_1 a0_2 l0_3 a2 a3).bind fun t168106 => ((impl_Board_places.f k a0_0 a0_1 a0_2 l0_3 a1 a3).bind fun t168109 => (impl_AheadAfter.l0 k 0 0 0 t168106 t168109 (t168109.length : Int) 0))) else (some (0, 0, 0, false)))) = some (r1, r2, r3, r4) := by first | (rw [hy168102]; with_reducible exact H) | (have H2_ := (Option.bind_some _ _).symm.trans H; rw [hy168102]; with_reducible exact H2_) | (have H2_ := (Option.bind_some _ _).symm.trans H; with_reducible exact H2_) | with_reducible exact H | (rw [hy168102]; exact H) | exact H
  have Ny168102 := Aside0.mk hy168102
  clear hy168102
  replace H := Option.bind_eq_some_iff.mp H
  obtain ⟨t168105, A50, H⟩ := H
  replace H : (if t168105 = true then ((impl_Board_places.f k a0_0 a0_1 a0_2 l0_3 a2 a3).bind fun t168106 => ((impl_Board_places.f k a0_0 a0_1 a0_2 l0_3 a1 a3).bind fun t168109 => (impl_AheadAfter.l0 k 0 0 0 t168106 t168109 (t168109.length : Int) 0))) else (some (0, 0, 0, false))) = some (r1, r2, r3, r4) := H
  have A5 := Aside0.mk A50
  clear A50
  by_cases c6 : t168105 = true
  · subst c6
    have H1 : ((impl_Board_places.f k a0_0 a0_1 a0_2 l0_3 a2 a3).bind fun t168106 => ((impl_Board_places.f k a0_0 a0_1 a0_2 l0_3 a1 a3).bind fun t168109 => (impl_AheadAfter.l0 k 0 0 0 t168106 t168109 (t168109.length : Int) 0))) = some (r1, r2, r3, r4) := by rw [if_pos rfl] at H; exact H
    clear H
    have H := H1
    clear H1
    replace H := Option.bind_eq_some_iff.mp H
    obtain ⟨t168106, A70, H⟩ := H
    replace H : ((impl_Board_places.f k a0_0 a0_1 a0_2 l0_3 a1 a3).bind fun t168109 => (impl_AheadAfter.l0 k 0 0 0 t168106 t168109 (t168109.length : Int) 0)) = some (r1, r2, r3, r4) := H
    have A7 := Aside0.mk A70
    clear A70
    replace H := Option.bind_eq_some_iff.mp H
    obtain ⟨t168109, A80, H⟩ := H
    replace H : (impl_AheadAfter.l0 k 0 0 0 t168106 t168109 (t168109.length : Int) 0) = some (r1, r2, r3, r4) := H
    have A8 := Aside0.mk A80
    clear A80
    have H' := Aside0.mk H
    clear H
    go_enter Try.func84, Try.ntmps84
    go_wp2_with (first | ((with_reducible refine gate_dst (N := 4) rfl ?_); refine box_event ?hg (N := 4) ?hd (cs := #[.int .i64 a0_0, .int .i64 a0_1, .int .i64 a0_2, .slice A0_3 l0_3.length c0_3]) (t := 32) ?hr ?_; (case hd => rfl); (case hg => rfl); (case hr => first | (go_simp; done) | (go_simp; rfl)); intro gb168101 hg w9 hbox hb; have n0_ := Aside0.mk (below_step (by repeat (first | (with_reducible first | exact HB.out | apply below_alloc | apply pw_below_drewN | apply below_drew1) | exact HB.out)) hb); have n1_ := Aside0.mk (hbox); have n2_ := Aside0.mk ((by rw [hg]; exact (below_size (by repeat (first | (with_reducible first | exact HB.out | apply below_alloc | apply pw_below_drewN | apply below_drew1) | exact HB.out))) : w.heap.size ≤ gb168101)); have n3_ := Aside0.mk ((by rw [hg]; exact (below_size (by repeat (first | (with_reducible first | exact HB.out | apply below_alloc | apply pw_below_drewN | apply below_drew1) | exact HB.out))) : w.heap.size ≤ gb168101)); clear HB; have HB := n0_; have BK168101 := n1_; have GW168101 := n2_; have GE168101 := n3_; clear n0_ n1_ n2_ n3_; clear hb hbox hg; have hcz10_0 : w9.cell? ⟨gb168101, 0, none⟩ = some (.int .i64 a0_0) := (blk_cell BK168101.out 0).trans rfl; have hcz10_1 : w9.cell? ⟨gb168101, 1, none⟩ = some (.int .i64 a0_1) := (blk_cell BK168101.out 1).trans rfl; have hcz10_2 : w9.cell? ⟨gb168101, 2, none⟩ = some (.int .i64 a0_2) := (blk_cell BK168101.out 2).trans rfl; have hcz10_3 : w9.cell? ⟨gb168101, 3, none⟩ = some (.slice A0_3 l0_3.length c0_3) := (blk_cell BK168101.out 3).trans rfl; have hfz10_0 := blk_frozen BK168101.out 0; have hfz10_1 := blk_frozen BK168101.out 1; have hfz10_2 := blk_frozen BK168101.out 2; have hfz10_3 := blk_frozen BK168101.out 3) | ((with_reducible refine gate_dst (N := 24) rfl ?_); refine Kd.R_lit (Kd.int .i64) _ 3 ?hg (N := 24) ?hd (xs := ([a1, a2] : List Int)) (inner := [.int .i64 a1, .int .i64 a2]) (ok := fun _ => True) (okp := fun _ => True) ?hr ?hp (fun _ hk => hk) trivial (Below.refl _ _) (Nat.le_refl _) (by simp) ?_; (case hd => rfl); (case hg => rfl); (case hr => first | (go_simp; done) | (go_simp; rfl)); (case hp => exact (Reps.one (show Kd.M (Kd.int .i64) _ _ _ a1 [.int .i64 a1] from rfl) (Reps.one (show Kd.M (Kd.int .i64) _ _ _ a2 [.int .i64 a2] from rfl) (Reps.none _ _)))); intro v168103 w11 ho12 hb hg_ hnew_; clear hg_ hnew_; (first | rw [← Ny168102.out] at ho12 | (simp only [Int.reduceToNat] at ho12; rw [← Ny168102.out] at ho12)); have n0_ := Aside0.mk (Kd.R_lower ho12 (below_size (by repeat (first | (with_reducible first | exact HB.out | apply below_alloc | apply pw_below_drewN | apply below_drew1 | refine below_set ?_ GE168101.out) | exact HB.out)))); have n1_ := Aside0.mk (blk_below (g := gb168101) (o := .cells #[.int .i64 a0_0, .int .i64 a0_1, .int .i64 a0_2, .slice A0_3 l0_3.length c0_3] 32 (0, 0)) (by (with_reducible repeat (first | refine blk_drewN ?_ _ | refine blk_drew ?_ | refine blk_alloc ?_ _)); exact BK168101.out) hb); have n2_ := Aside0.mk (below_step (by repeat (first | (with_reducible first | exact HB.out | apply below_alloc | apply pw_below_drewN | apply below_drew1 | refine below_set ?_ GE168101.out) | exact HB.out)) hb); clear BK168101; clear HB; have HO168104 := n0_; have BK168101 := n1_; have HB := n2_; clear n0_ n1_ n2_; clear hb ho12; obtain ⟨Ao13, co13, eo13⟩ := Kd.R_slice HO168104.out; subst eo13) | ((with_reducible refine gate_callee (f := 158) rfl ?_); refine goesL_ (some 25) rfl rfl Try.func158 (by kernel_rfl) rfl #[.agg #[.int .i64 a0_0, .int .i64 a0_1, .int .i64 a0_2, .slice A0_3 l0_3.length c0_3], .int .i64 a3, .int .i64 10, .slice Ao13 y168102.length co13] rfl (by (try simp only [List.map_toArray, List.map_cons, List.map_nil]); first | done | rfl | (simp only [List.length_drop, List.length_take]; rfl)) ?_; (with_reducible refine (impl_isThrown.calls k a0_0 a0_1 a0_2 _ _ l0_3 a3 10 _ _ y168102 true _ ?side1 ?side2 ?side3 ?side4 A5.out).mono ?_); (case side1 => repeat (first | exact (Kd.C_below HR0_3.out HB.out) | (with_reducible refine Kd.C_alloc ?_ _) | (with_reducible refine Kd.C_drewN ?_ _) | (with_reducible refine Kd.C_drew ?_))); (case side2 => exact HC0_3.out); (case side3 => repeat (first | exact (Kd.R_reads' HO168104.out).2.2 | (with_reducible refine Kd.C_alloc ?_ _) | (with_reducible refine Kd.C_drewN ?_ _) | (with_reducible refine Kd.C_drew ?_))); (case side4 => exact (Kd.R_reads' HO168104.out).2.1); rintro e w14 ⟨rfl, hb⟩; refine ⟨_, rfl, ?_⟩; have n0_ := Aside0.mk (Kd.R_below (by (with_reducible repeat (first | apply Kd.R_alloc | apply Kd.R_drewN | apply Kd.R_drew)); exact HO168104.out) hb); have n1_ := Aside0.mk (blk_below (g := gb168101) (o := .cells #[.int .i64 a0_0, .int .i64 a0_1, .int .i64 a0_2, .slice A0_3 l0_3.length c0_3] 32 (0, 0)) (by (with_reducible repeat (first | refine blk_drewN ?_ _ | refine blk_drew ?_ | refine blk_alloc ?_ _)); exact BK168101.out) hb); have n2_ := Aside0.mk (below_step (by repeat (first | (with_reducible first | exact HB.out | apply below_alloc | apply pw_below_drewN | apply below_drew1 | refine below_set ?_ GE168101.out) | exact HB.out)) hb); clear HO168104; clear BK168101; clear HB; have HO168104 := n0_; have BK168101 := n1_; have HB := n2_; clear n0_ n1_ n2_; (try clear hb); (try clear hb2); (try clear hk); (try clear hi); have hcz15_0 : w14.cell? ⟨gb168101, 0, none⟩ = some (.int .i64 a0_0) := (blk_cell BK168101.out 0).trans rfl; have hcz15_1 : w14.cell? ⟨gb168101, 1, none⟩ = some (.int .i64 a0_1) := (blk_cell BK168101.out 1).trans rfl; have hcz15_2 : w14.cell? ⟨gb168101, 2, none⟩ = some (.int .i64 a0_2) := (blk_cell BK168101.out 2).trans rfl; have hcz15_3 : w14.cell? ⟨gb168101, 3, none⟩ = some (.slice A0_3 l0_3.length c0_3) := (blk_cell BK168101.out 3).trans rfl; have hfz15_0 := blk_frozen BK168101.out 0; have hfz15_1 := blk_frozen BK168101.out 1; have hfz15_2 := blk_frozen BK168101.out 2; have hfz15_3 := blk_frozen BK168101.out 3) | ((with_reducible refine gate_callee (f := 159) rfl ?_); refine goesL_ (some 30) rfl rfl Try.func159 (by kernel_rfl) rfl #[.agg #[.int .i64 a0_0, .int .i64 a0_1, .int .i64 a0_2, .slice A0_3 l0_3.length c0_3], .int .i64 a2, .int .i64 a3] rfl (by (try simp only [List.map_toArray, List.map_cons, List.map_nil]); first | done | rfl | (simp only [List.length_drop, List.length_take]; rfl)) ?_; (with_reducible refine (impl_Board_places.calls k a0_0 a0_1 a0_2 _ _ l0_3 a2 a3 t168106 _ ?side1 ?side2 A7.out).mono ?_); (case side1 => repeat (first | exact (Kd.C_below HR0_3.out HB.out) | (with_reducible refine Kd.C_alloc ?_ _) | (with_reducible refine Kd.C_drewN ?_ _) | (with_reducible refine Kd.C_drew ?_))); (case side2 => exact HC0_3.out); rintro e w16 ⟨v168107, rfl, ho0, hb⟩; refine ⟨_, rfl, ?_⟩; have n0_ := Aside0.mk (Kd.R_elder' (by (with_reducible repeat (first | apply Kd.R_alloc | apply Kd.R_drewN | apply Kd.R_drew)); exact HO168104.out) (Kd.R_base ho0) hb); have n1_ := Aside0.mk (Kd.R_lower (Kd.R_new' ho0 (Kd.R_lt (by (with_reducible repeat (first | apply Kd.R_alloc | apply Kd.R_drewN | apply Kd.R_drew)); exact HO168104.out))) (below_size (by repeat (first | (with_reducible first | exact HB.out | apply below_alloc | apply pw_below_drewN | apply below_drew1 | refine below_set ?_ GE168101.out) | exact HB.out)))); have n2_ := Aside0.mk (blk_below (g := gb168101) (o := .cells #[.int .i64 a0_0, .int .i64 a0_1, .int .i64 a0_2, .slice A0_3 l0_3.length c0_3] 32 (0, 0)) (by (with_reducible repeat (first | refine blk_drewN ?_ _ | refine blk_drew ?_ | refine blk_alloc ?_ _)); exact BK168101.out) hb); have n3_ := Aside0.mk (below_step (by repeat (first | (with_reducible first | exact HB.out | apply below_alloc | apply pw_below_drewN | apply below_drew1 | refine below_set ?_ GE168101.out) | exact HB.out)) hb); clear HO168104; clear BK168101; clear HB; have HO168104 := n0_; have HO168108 := n1_; have BK168101 := n2_; have HB := n3_; clear n0_ n1_ n2_ n3_; (try clear hb); (try clear hb2); (try clear hk); (try clear hi); (try clear ho0); have hcz17_0 : w16.cell? ⟨gb168101, 0, none⟩ = some (.int .i64 a0_0) := (blk_cell BK168101.out 0).trans rfl; have hcz17_1 : w16.cell? ⟨gb168101, 1, none⟩ = some (.int .i64 a0_1) := (blk_cell BK168101.out 1).trans rfl; have hcz17_2 : w16.cell? ⟨gb168101, 2, none⟩ = some (.int .i64 a0_2) := (blk_cell BK168101.out 2).trans rfl; have hcz17_3 : w16.cell? ⟨gb168101, 3, none⟩ = some (.slice A0_3 l0_3.length c0_3) := (blk_cell BK168101.out 3).trans rfl; have hfz17_0 := blk_frozen BK168101.out 0; have hfz17_1 := blk_frozen BK168101.out 1; have hfz17_2 := blk_frozen BK168101.out 2; have hfz17_3 := blk_frozen BK168101.out 3) | ((with_reducible refine gate_callee (f := 159) rfl ?_); refine goesL_ (some 34) rfl rfl Try.func159 (by kernel_rfl) rfl #[.agg #[.int .i64 a0_0, .int .i64 a0_1, .int .i64 a0_2, .slice A0_3 l0_3.length c0_3], .int .i64 a1, .int .i64 a3] rfl (by (try simp only [List.map_toArray, List.map_cons, List.map_nil]); first | done | rfl | (simp only [List.length_drop, List.length_take]; rfl)) ?_; (with_reducible refine (impl_Board_places.calls k a0_0 a0_1 a0_2 _ _ l0_3 a1 a3 t168109 _ ?side1 ?side2 A8.out).mono ?_); (case side1 => repeat (first | exact (Kd.C_below HR0_3.out HB.out) | (with_reducible refine Kd.C_alloc ?_ _) | (with_reducible refine Kd.C_drewN ?_ _) | (with_reducible refine Kd.C_drew ?_))); (case side2 => exact HC0_3.out); rintro e w18 ⟨v168110, rfl, ho0, hb⟩; refine ⟨_, rfl, ?_⟩; have n0_ := Aside0.mk (Kd.R_elder' (by (with_reducible repeat (first | apply Kd.R_alloc | apply Kd.R_drewN | apply Kd.R_drew)); exact HO168104.out) (Kd.R_base ho0) hb); have n1_ := Aside0.mk (Kd.R_elder' (by (with_reducible repeat (first | apply Kd.R_alloc | apply Kd.R_drewN | apply Kd.R_drew)); exact HO168108.out) (Kd.R_base ho0) hb); have n2_ := Aside0.mk (Kd.R_lower (Kd.R_new' (Kd.R_new' ho0 (Kd.R_lt (by (with_reducible repeat (first | apply Kd.R_alloc | apply Kd.R_drewN | apply Kd.R_drew)); exact HO168104.out))) (Kd.R_lt (by (with_reducible repeat (first | apply Kd.R_alloc | apply Kd.R_drewN | apply Kd.R_drew)); exact HO168108.out))) (below_size (by repeat (first | (with_reducible first | exact HB.out | apply below_alloc | apply pw_below_drewN | apply below_drew1 | refine below_set ?_ GE168101.out) | exact HB.out)))); have n3_ := Aside0.mk (blk_below (g := gb168101) (o := .cells #[.int .i64 a0_0, .int .i64 a0_1, .int .i64 a0_2, .slice A0_3 l0_3.length c0_3] 32 (0, 0)) (by (with_reducible repeat (first | refine blk_drewN ?_ _ | refine blk_drew ?_ | refine blk_alloc ?_ _)); exact BK168101.out) hb); have n4_ := Aside0.mk (below_step (by repeat (first | (with_reducible first | exact HB.out | apply below_alloc | apply pw_below_drewN | apply below_drew1 | refine below_set ?_ GE168101.out) | exact HB.out)) hb); clear HO168104; clear HO168108; clear BK168101; clear HB; have HO168104 := n0_; have HO168108 := n1_; have HO168111 := n2_; have BK168101 := n3_; have HB := n4_; clear n0_ n1_ n2_ n3_ n4_; (try clear hb); (try clear hb2); (try clear hk); (try clear hi); (try clear ho0); obtain ⟨Ao19, co19, eo19⟩ := Kd.R_slice HO168111.out; subst eo19))
    go_loopg [12, 13, 14, 36] k (fun kq v12 v13 v14 v36 w' => ∃ (x12_1 : Int) (x13_1 : Int) (x14_1 : Int) (x36_1 : Int), v12 = .int .i64 x12_1 ∧ v13 = .int .i64 x13_1 ∧ v14 = .int .i64 x14_1 ∧ v36 = .int .i64 x36_1 ∧ Aside0 (impl_AheadAfter.l0 kq x12_1 x13_1 x14_1 t168106 t168109 (t168109.length : Int) x36_1 = some (r1, r2, r3, r4)) ∧ Aside0 (kq ≤ k) ∧ Aside0 (Kd.R (Kd.int .i64) 3 w' w.heap.size (fun k_ => some k_ ≠ ((.slice Ao19 t168109.length co19) : Value).ownBlock) v168107 t168106) ∧ Aside0 (Kd.R (Kd.int .i64) 3 w' w.heap.size (fun k_ => some k_ ≠ (v168107 : Value).ownBlock) (.slice Ao19 t168109.length co19) t168109) ∧ Aside0 (w'.heap[gb168101]? = some (.cells #[.int .i64 a0_0, .int .i64 a0_1, .int .i64 a0_2, (.slice A0_3 l0_3.length c0_3)] 32 (0, 0))) ∧ Aside0 (Below w.heap.size w w'))
    case atStart => exact ⟨(0), (0), (0), (0), (by first | rfl | (simp; done) | (simp [*]; done)), (by first | rfl | (simp; done) | (simp [*]; done)), (by first | rfl | (simp; done) | (simp [*]; done)), (by first | rfl | (simp; done) | (simp [*]; done)), H', ⟨Nat.le_refl _⟩, ⟨by (with_reducible repeat (first | apply Kd.R_alloc | apply Kd.R_drewN | apply Kd.R_drew)); exact Kd.R_mono HO168108.out (fun _ hk => hk.2)⟩, ⟨by (with_reducible repeat (first | apply Kd.R_alloc | apply Kd.R_drewN | apply Kd.R_drew)); exact Kd.R_mono HO168111.out (fun _ hk => hk.2)⟩, ⟨by (with_reducible repeat (first | refine blk_drewN ?_ _ | refine blk_drew ?_ | refine blk_alloc ?_ _)); exact BK168101.out⟩, ⟨by repeat (first | (with_reducible first | exact HB.out | apply below_alloc | apply pw_below_drewN | apply below_drew1 | refine below_set ?_ GE168101.out) | exact HB.out)⟩⟩
    case round =>
      clear H'
      try clear c1
      try clear p2
      try clear c6
      try clear c8
      try clear c15
      try clear hcz10_0
      try clear hcz10_1
      try clear hcz10_2
      try clear hcz10_3
      try clear hcz15_0
      try clear hcz15_1
      try clear hcz15_2
      try clear hcz15_3
      try clear hcz17_0
      try clear hcz17_1
      try clear hcz17_2
      try clear hcz17_3
      try clear hfz10_0
      try clear hfz10_1
      try clear hfz10_2
      try clear hfz10_3
      try clear hfz15_0
      try clear hfz15_1
      try clear hfz15_2
      try clear hfz15_3
      try clear hfz17_0
      try clear hfz17_1
      try clear hfz17_2
      try clear hfz17_3
      obtain ⟨x12_1, x13_1, x14_1, x36_1, rfl, rfl, rfl, rfl, HA, HK1, HO_15, HO_34, BK168101, HB⟩ := hrel
      cases gk with
      | zero => exact absurd HA.out (by simp [impl_AheadAfter.l0])
      | succ k1 =>
        have H := HA.out
        clear HA
        simp only [impl_AheadAfter.l0] at H
        by_cases c20 : x36_1 < (t168109.length : Int)
        · rw [if_pos c20] at H
          have c20b0 : decide (x36_1 < (t168109.length : Int)) = true := decide_eq_true c20
          clear c20
          by_cases c21 : 0 ≤ x36_1
          · rw [if_pos c21] at H
            have c21b0 : decide (0 ≤ x36_1) = true := decide_eq_true c21
            clear c21
            by_cases c22 : x36_1 < (t168109.length : Int)
            · rw [if_pos c22] at H
              have c22b0 : decide (x36_1 < (t168109.length : Int)) = true := decide_eq_true c22
              clear c22
              have H' := Aside0.mk H
              clear H
              have p168112 : 0 ≤ (x36_1 : Int) := of_decide_eq_true (by first | (with_reducible assumption) | assumption)
              have q168112 : x36_1 < (t168109.length : Int) := of_decide_eq_true (by first | (with_reducible assumption) | assumption)
              obtain ⟨ad168112, e168112, hx168112_0⟩ := Kd.at_int (Kd.R_reads' HO_34.out).2.2 x36_1 p168112 q168112
              cases e168112
              replace p168112 := eq_true p168112
              replace q168112 := eq_true q168112
              obtain ⟨Ao23, co23, eo23⟩ := Kd.R_slice HO_15.out
              subst eo23
              go_wp2
              go_loopg [12, 13, 14, 43] k1 (fun kq v12 v13 v14 v43 w' => ∃ (x12_2 : Int) (x13_2 : Int) (x14_2 : Int) (x43_2 : Int), v12 = .int .i64 x12_2 ∧ v13 = .int .i64 x13_2 ∧ v14 = .int .i64 x14_2 ∧ v43 = .int .i64 x43_2 ∧ Aside0 (impl_AheadAfter.l1 kq x12_2 x13_2 x14_2 t168106 x36_1 (rd t168109 x36_1) t168109 (t168109.length : Int) x36_1 t168106 (t168106.length : Int) x43_2 = some (r1, r2, r3, r4)) ∧ Aside0 (kq ≤ k1) ∧ Aside0 (Kd.R (Kd.int .i64) 3 w' w.heap.size (fun k_ => some k_ ≠ ((.slice (some ad168112) t168109.length co19) : Value).ownBlock) (.slice Ao23 t168106.length co23) t168106) ∧ Aside0 (Kd.R (Kd.int .i64) 3 w' w.heap.size (fun k_ => some k_ ≠ ((.slice Ao23 t168106.length co23) : Value).ownBlock ∧ some k_ ≠ ((.slice Ao23 t168106.length co23) : Value).ownBlock) (.slice (some ad168112) t168109.length co19) t168109) ∧ Aside0 (Kd.R (Kd.int .i64) 3 w' w.heap.size (fun k_ => some k_ ≠ ((.slice (some ad168112) t168109.length co19) : Value).ownBlock) (.slice Ao23 t168106.length co23) t168106) ∧ Aside0 (w'.heap[gb168101]? = some (.cells #[.int .i64 a0_0, .int .i64 a0_1, .int .i64 a0_2, (.slice A0_3 l0_3.length c0_3)] 32 (0, 0))) ∧ Aside0 (Below w.heap.size w w'))
              case atStart => exact ⟨(x12_1), (x13_1), (x14_1), (0), (by first | rfl | (simp; done) | (simp [*]; done)), (by first | rfl | (simp; done) | (simp [*]; done)), (by first | rfl | (simp; done) | (simp [*]; done)), (by first | rfl | (simp; done) | (simp [*]; done)), H', ⟨Nat.le_refl _⟩, ⟨by (with_reducible repeat (first | apply Kd.R_alloc | apply Kd.R_drewN | apply Kd.R_drew)); exact HO_15.out⟩, ⟨by (with_reducible repeat (first | apply Kd.R_alloc | apply Kd.R_drewN | apply Kd.R_drew)); exact Kd.R_mono HO_34.out (fun _ hk => ⟨hk, hk⟩)⟩, ⟨by (with_reducible repeat (first | apply Kd.R_alloc | apply Kd.R_drewN | apply Kd.R_drew)); exact HO_15.out⟩, ⟨by (with_reducible repeat (first | refine blk_drewN ?_ _ | refine blk_drew ?_ | refine blk_alloc ?_ _)); exact BK168101.out⟩, ⟨by repeat (first | (with_reducible first | exact HB.out | apply below_alloc | apply pw_below_drewN | apply below_drew1 | refine below_set ?_ GE168101.out) | exact HB.out)⟩⟩
              case round =>
                clear H'
                try clear c1
                try clear p1
                try clear q1
                try clear hx1
                try clear c2
                try clear p2
                try clear c6
                try clear c8
                try clear c15
                try clear p16
                try clear q16
                try clear hx16
                try clear c20
                try clear c20b0
                try clear c21
                try clear c21b0
                try clear c22
                try clear c22b0
                try clear hcz10_0
                try clear hcz10_1
                try clear hcz10_2
                try clear hcz10_3
                try clear hcz15_0
                try clear hcz15_1
                try clear hcz15_2
                try clear hcz15_3
                try clear hcz17_0
                try clear hcz17_1
                try clear hcz17_2
                try clear hcz17_3
                try clear hfz10_0
                try clear hfz10_1
                try clear hfz10_2
                try clear hfz10_3
                try clear hfz15_0
                try clear hfz15_1
                try clear hfz15_2
                try clear hfz15_3
                try clear hfz17_0
                try clear hfz17_1
                try clear hfz17_2
                try clear hfz17_3
                try clear hx168112_0
                try clear p168112
                try clear p2
                try clear q168112
                obtain ⟨x12_2, x13_2, x14_2, x43_2, rfl, rfl, rfl, rfl, HA, HK2, HO_15, HO_34, HO_41, BK168101, HB⟩ := hrel
                cases gk with
                | zero => exact absurd HA.out (by simp [impl_AheadAfter.l1])
                | succ k2 =>
                  have H := HA.out
                  clear HA
                  simp only [impl_AheadAfter.l1] at H
                  by_cases c24 : x43_2 < (t168106.length : Int)
                  · rw [if_pos c24] at H
                    have c24b0 : decide (x43_2 < (t168106.length : Int)) = true := decide_eq_true c24
                    clear c24
                    by_cases c25 : 0 ≤ x43_2
                    · rw [if_pos c25] at H
                      have c25b0 : decide (0 ≤ x43_2) = true := decide_eq_true c25
                      clear c25
                      by_cases c26 : x43_2 < (t168106.length : Int)
                      · rw [if_pos c26] at H
                        have c26b0 : decide (x43_2 < (t168106.length : Int)) = true := decide_eq_true c26
                        clear c26
                        by_cases c27 : x36_1 > x43_2
                        · rw [if_pos c27] at H
                          have c27b0 : decide (x43_2 < x36_1) = true := decide_eq_true c27
                          clear c27
                          have H' := Aside0.mk H
                          clear H
                          have p168113 : 0 ≤ (x43_2 : Int) := of_decide_eq_true (by first | (with_reducible assumption) | assumption)
                          have q168113 : x43_2 < (t168106.length : Int) := of_decide_eq_true (by first | (with_reducible assumption) | assumption)
                          obtain ⟨ad168113, e168113, hx168113_0⟩ := Kd.at_int (Kd.R_reads' HO_41.out).2.2 x43_2 p168113 q168113
                          cases e168113
                          replace p168113 := eq_true p168113
                          replace q168113 := eq_true q168113
                          go_wp2
                          go_roundg k2
                          case measure => have := HK1.out; have := HK2.out; omega
                          case rel => exact ⟨(wrap64 (x12_2 + (wrap64 ((rd t168109 x36_1) * (rd t168106 x43_2))))), (x13_2), (x14_2), (wrap64 (x43_2 + 1)), (by first | rfl | (simp; done) | (simp [*]; done)), (by first | rfl | (simp; done) | (simp [*]; done)), (by first | rfl | (simp; done) | (simp [*]; done)), (by first | rfl | (simp; done) | (simp [*]; done)), H', ⟨by have := HK1.out; have := HK2.out; omega⟩, ⟨by (with_reducible repeat (first | apply Kd.R_alloc | apply Kd.R_drewN | apply Kd.R_drew)); exact HO_15.out⟩, ⟨by (with_reducible repeat (first | apply Kd.R_alloc | apply Kd.R_drewN | apply Kd.R_drew)); exact HO_34.out⟩, ⟨by (with_reducible repeat (first | apply Kd.R_alloc | apply Kd.R_drewN | apply Kd.R_drew)); exact HO_41.out⟩, ⟨by (with_reducible repeat (first | refine blk_drewN ?_ _ | refine blk_drew ?_ | refine blk_alloc ?_ _)); exact BK168101.out⟩, ⟨by repeat (first | (with_reducible first | exact HB.out | apply below_alloc | apply pw_below_drewN | apply below_drew1 | refine below_set ?_ GE168101.out) | exact HB.out)⟩⟩
                        · rw [if_neg c27] at H
                          have c27b0 : decide (x43_2 < x36_1) = false := decide_eq_false c27
                          clear c27
                          by_cases c28 : x36_1 = x43_2
                          · rw [if_pos c28] at H
                            have c28b0 : (x36_1 == x43_2) = true := beq_iff_eq.mpr c28
                            have c28b1 : (x36_1 != x43_2) = false := bne_eq_false_iff_eq.mpr c28
                            clear c28
                            have H' := Aside0.mk H
                            clear H
                            have p168113 : 0 ≤ (x43_2 : Int) := of_decide_eq_true (by first | (with_reducible assumption) | assumption)
                            have q168113 : x43_2 < (t168106.length : Int) := of_decide_eq_true (by first | (with_reducible assumption) | assumption)
                            obtain ⟨ad168113, e168113, hx168113_0⟩ := Kd.at_int (Kd.R_reads' HO_41.out).2.2 x43_2 p168113 q168113
                            cases e168113
                            replace p168113 := eq_true p168113
                            replace q168113 := eq_true q168113
                            go_wp2
                            go_roundg k2
                            case measure => have := HK1.out; have := HK2.out; omega
                            case rel => exact ⟨(x12_2), (wrap64 (x13_2 + (wrap64 ((rd t168109 x36_1) * (rd t168106 x43_2))))), (x14_2), (wrap64 (x43_2 + 1)), (by first | rfl | (simp; done) | (simp [*]; done)), (by first | rfl | (simp; done) | (simp [*]; done)), (by first | rfl | (simp; done) | (simp [*]; done)), (by first | rfl | (simp; done) | (simp [*]; done)), H', ⟨by have := HK1.out; have := HK2.out; omega⟩, ⟨by (with_reducible repeat (first | apply Kd.R_alloc | apply Kd.R_drewN | apply Kd.R_drew)); exact HO_15.out⟩, ⟨by (with_reducible repeat (first | apply Kd.R_alloc | apply Kd.R_drewN | apply Kd.R_drew)); exact HO_34.out⟩, ⟨by (with_reducible repeat (first | apply Kd.R_alloc | apply Kd.R_drewN | apply Kd.R_drew)); exact HO_41.out⟩, ⟨by (with_reducible repeat (first | refine blk_drewN ?_ _ | refine blk_drew ?_ | refine blk_alloc ?_ _)); exact BK168101.out⟩, ⟨by repeat (first | (with_reducible first | exact HB.out | apply below_alloc | apply pw_below_drewN | apply below_drew1 | refine below_set ?_ GE168101.out) | exact HB.out)⟩⟩
                          · rw [if_neg c28] at H
                            have c28b0 : (x36_1 == x43_2) = false := beq_eq_false_iff_ne.mpr c28
                            have c28b1 : (x36_1 != x43_2) = true := bne_iff_ne.mpr c28
                            have H' := Aside0.mk H
                            clear H
                            have p168113 : 0 ≤ (x43_2 : Int) := of_decide_eq_true (by first | (with_reducible assumption) | assumption)
                            have q168113 : x43_2 < (t168106.length : Int) := of_decide_eq_true (by first | (with_reducible assumption) | assumption)
                            obtain ⟨ad168113, e168113, hx168113_0⟩ := Kd.at_int (Kd.R_reads' HO_41.out).2.2 x43_2 p168113 q168113
                            cases e168113
                            replace p168113 := eq_true p168113
                            replace q168113 := eq_true q168113
                            go_wp2
                            go_roundg k2
                            case measure => have := HK1.out; have := HK2.out; omega
                            case rel => exact ⟨(x12_2), (x13_2), (wrap64 (x14_2 + (wrap64 ((rd t168109 x36_1) * (rd t168106 x43_2))))), (wrap64 (x43_2 + 1)), (by first | rfl | (simp; done) | (simp [*]; done)), (by first | rfl | (simp; done) | (simp [*]; done)), (by first | rfl | (simp; done) | (simp [*]; done)), (by first | rfl | (simp; done) | (simp [*]; done)), H', ⟨by have := HK1.out; have := HK2.out; omega⟩, ⟨by (with_reducible repeat (first | apply Kd.R_alloc | apply Kd.R_drewN | apply Kd.R_drew)); exact HO_15.out⟩, ⟨by (with_reducible repeat (first | apply Kd.R_alloc | apply Kd.R_drewN | apply Kd.R_drew)); exact HO_34.out⟩, ⟨by (with_reducible repeat (first | apply Kd.R_alloc | apply Kd.R_drewN | apply Kd.R_drew)); exact HO_41.out⟩, ⟨by (with_reducible repeat (first | refine blk_drewN ?_ _ | refine blk_drew ?_ | refine blk_alloc ?_ _)); exact BK168101.out⟩, ⟨by repeat (first | (with_reducible first | exact HB.out | apply below_alloc | apply pw_below_drewN | apply below_drew1 | refine below_set ?_ GE168101.out) | exact HB.out)⟩⟩
                      · rw [if_neg c26] at H
                        exact absurd H (by simp)
                    · rw [if_neg c25] at H
                      exact absurd H (by simp)
                  · rw [if_neg c24] at H
                    have c24b0 : decide (x43_2 < (t168106.length : Int)) = false := decide_eq_false c24
                    clear c24
                    have H' := Aside0.mk H
                    clear H
                    go_wp2
                    go_roundg k2
                    case measure => have := HK1.out; have := HK2.out; omega
                    case rel => exact ⟨(x12_2), (x13_2), (x14_2), (wrap64 (x36_1 + 1)), (by first | rfl | (simp; done) | (simp [*]; done)), (by first | rfl | (simp; done) | (simp [*]; done)), (by first | rfl | (simp; done) | (simp [*]; done)), (by first | rfl | (simp; done) | (simp [*]; done)), H', ⟨by have := HK1.out; have := HK2.out; omega⟩, ⟨by (with_reducible repeat (first | apply Kd.R_alloc | apply Kd.R_drewN | apply Kd.R_drew)); exact HO_15.out⟩, ⟨by (with_reducible repeat (first | apply Kd.R_alloc | apply Kd.R_drewN | apply Kd.R_drew)); exact Kd.R_mono HO_34.out (fun _ hk => hk.1)⟩, ⟨by (with_reducible repeat (first | refine blk_drewN ?_ _ | refine blk_drew ?_ | refine blk_alloc ?_ _)); exact BK168101.out⟩, ⟨by repeat (first | (with_reducible first | exact HB.out | apply below_alloc | apply pw_below_drewN | apply below_drew1 | refine below_set ?_ GE168101.out) | exact HB.out)⟩⟩
            · rw [if_neg c22] at H
              exact absurd H (by simp)
          · rw [if_neg c21] at H
            exact absurd H (by simp)
        · rw [if_neg c20] at H
          have c20b0 : decide (x36_1 < (t168109.length : Int)) = false := decide_eq_false c20
          clear c20
          simp only [Option.some.injEq, Prod.mk.injEq] at H
          obtain ⟨rfl, rfl, rfl, rfl⟩ := H
          go_wp2
          refine bodyPost_ret (results_list (rs := [.tmp 8, .tmp 9, .tmp 10, .tmp 11]) rfl (by simp) (.tmp (.tmp (.tmp (.tmp .nil))))) rfl ?_
          exact ⟨by first | rfl | (simp [errW_none, errW_some] <;> rfl) | (simp [*, errW_none, errW_some] <;> rfl), by repeat (first | (with_reducible first | exact HB.out | apply below_alloc | apply pw_below_drewN | apply below_drew1 | refine below_set ?_ GE168101.out) | exact HB.out)⟩
  · replace c6 := Bool.eq_false_iff.mpr c6
    subst c6
    have H1 : (some (0, 0, 0, false)) = some (r1, r2, r3, r4) := by rw [if_neg (show ¬ (false = true) by decide)] at H; exact H
    clear H
    have H := H1
    clear H1
    simp only [Option.some.injEq, Prod.mk.injEq] at H
    obtain ⟨rfl, rfl, rfl, rfl⟩ := H
    go_enter Try.func84, Try.ntmps84
    go_wp2_with (first | ((with_reducible refine gate_dst (N := 4) rfl ?_); refine box_event ?hg (N := 4) ?hd (cs := #[.int .i64 a0_0, .int .i64 a0_1, .int .i64 a0_2, .slice A0_3 l0_3.length c0_3]) (t := 32) ?hr ?_; (case hd => rfl); (case hg => rfl); (case hr => first | (go_simp; done) | (go_simp; rfl)); intro gb168101 hg w29 hbox hb; have n0_ := Aside0.mk (below_step (by repeat (first | (with_reducible first | exact HB.out | apply below_alloc | apply pw_below_drewN | apply below_drew1) | exact HB.out)) hb); have n1_ := Aside0.mk (hbox); have n2_ := Aside0.mk ((by rw [hg]; exact (below_size (by repeat (first | (with_reducible first | exact HB.out | apply below_alloc | apply pw_below_drewN | apply below_drew1) | exact HB.out))) : w.heap.size ≤ gb168101)); have n3_ := Aside0.mk ((by rw [hg]; exact (below_size (by repeat (first | (with_reducible first | exact HB.out | apply below_alloc | apply pw_below_drewN | apply below_drew1) | exact HB.out))) : w.heap.size ≤ gb168101)); clear HB; have HB := n0_; have BK168101 := n1_; have GW168101 := n2_; have GE168101 := n3_; clear n0_ n1_ n2_ n3_; clear hb hbox hg; have hcz30_0 : w29.cell? ⟨gb168101, 0, none⟩ = some (.int .i64 a0_0) := (blk_cell BK168101.out 0).trans rfl; have hcz30_1 : w29.cell? ⟨gb168101, 1, none⟩ = some (.int .i64 a0_1) := (blk_cell BK168101.out 1).trans rfl; have hcz30_2 : w29.cell? ⟨gb168101, 2, none⟩ = some (.int .i64 a0_2) := (blk_cell BK168101.out 2).trans rfl; have hcz30_3 : w29.cell? ⟨gb168101, 3, none⟩ = some (.slice A0_3 l0_3.length c0_3) := (blk_cell BK168101.out 3).trans rfl; have hfz30_0 := blk_frozen BK168101.out 0; have hfz30_1 := blk_frozen BK168101.out 1; have hfz30_2 := blk_frozen BK168101.out 2; have hfz30_3 := blk_frozen BK168101.out 3) | ((with_reducible refine gate_dst (N := 24) rfl ?_); refine Kd.R_lit (Kd.int .i64) _ 3 ?hg (N := 24) ?hd (xs := ([a1, a2] : List Int)) (inner := [.int .i64 a1, .int .i64 a2]) (ok := fun _ => True) (okp := fun _ => True) ?hr ?hp (fun _ hk => hk) trivial (Below.refl _ _) (Nat.le_refl _) (by simp) ?_; (case hd => rfl); (case hg => rfl); (case hr => first | (go_simp; done) | (go_simp; rfl)); (case hp => exact (Reps.one (show Kd.M (Kd.int .i64) _ _ _ a1 [.int .i64 a1] from rfl) (Reps.one (show Kd.M (Kd.int .i64) _ _ _ a2 [.int .i64 a2] from rfl) (Reps.none _ _)))); intro v168103 w31 ho32 hb hg_ hnew_; clear hg_ hnew_; (first | rw [← Ny168102.out] at ho32 | (simp only [Int.reduceToNat] at ho32; rw [← Ny168102.out] at ho32)); have n0_ := Aside0.mk (Kd.R_lower ho32 (below_size (by repeat (first | (with_reducible first | exact HB.out | apply below_alloc | apply pw_below_drewN | apply below_drew1 | refine below_set ?_ GE168101.out) | exact HB.out)))); have n1_ := Aside0.mk (blk_below (g := gb168101) (o := .cells #[.int .i64 a0_0, .int .i64 a0_1, .int .i64 a0_2, .slice A0_3 l0_3.length c0_3] 32 (0, 0)) (by (with_reducible repeat (first | refine blk_drewN ?_ _ | refine blk_drew ?_ | refine blk_alloc ?_ _)); exact BK168101.out) hb); have n2_ := Aside0.mk (below_step (by repeat (first | (with_reducible first | exact HB.out | apply below_alloc | apply pw_below_drewN | apply below_drew1 | refine below_set ?_ GE168101.out) | exact HB.out)) hb); clear BK168101; clear HB; have HO168104 := n0_; have BK168101 := n1_; have HB := n2_; clear n0_ n1_ n2_; clear hb ho32; obtain ⟨Ao33, co33, eo33⟩ := Kd.R_slice HO168104.out; subst eo33) | ((with_reducible refine gate_callee (f := 158) rfl ?_); refine goesL_ (some 25) rfl rfl Try.func158 (by kernel_rfl) rfl #[.agg #[.int .i64 a0_0, .int .i64 a0_1, .int .i64 a0_2, .slice A0_3 l0_3.length c0_3], .int .i64 a3, .int .i64 10, .slice Ao33 y168102.length co33] rfl (by (try simp only [List.map_toArray, List.map_cons, List.map_nil]); first | done | rfl | (simp only [List.length_drop, List.length_take]; rfl)) ?_; (with_reducible refine (impl_isThrown.calls k a0_0 a0_1 a0_2 _ _ l0_3 a3 10 _ _ y168102 false _ ?side1 ?side2 ?side3 ?side4 A5.out).mono ?_); (case side1 => repeat (first | exact (Kd.C_below HR0_3.out HB.out) | (with_reducible refine Kd.C_alloc ?_ _) | (with_reducible refine Kd.C_drewN ?_ _) | (with_reducible refine Kd.C_drew ?_))); (case side2 => exact HC0_3.out); (case side3 => repeat (first | exact (Kd.R_reads' HO168104.out).2.2 | (with_reducible refine Kd.C_alloc ?_ _) | (with_reducible refine Kd.C_drewN ?_ _) | (with_reducible refine Kd.C_drew ?_))); (case side4 => exact (Kd.R_reads' HO168104.out).2.1); rintro e w34 ⟨rfl, hb⟩; refine ⟨_, rfl, ?_⟩; have n0_ := Aside0.mk (Kd.R_below (by (with_reducible repeat (first | apply Kd.R_alloc | apply Kd.R_drewN | apply Kd.R_drew)); exact HO168104.out) hb); have n1_ := Aside0.mk (blk_below (g := gb168101) (o := .cells #[.int .i64 a0_0, .int .i64 a0_1, .int .i64 a0_2, .slice A0_3 l0_3.length c0_3] 32 (0, 0)) (by (with_reducible repeat (first | refine blk_drewN ?_ _ | refine blk_drew ?_ | refine blk_alloc ?_ _)); exact BK168101.out) hb); have n2_ := Aside0.mk (below_step (by repeat (first | (with_reducible first | exact HB.out | apply below_alloc | apply pw_below_drewN | apply below_drew1 | refine below_set ?_ GE168101.out) | exact HB.out)) hb); clear HO168104; clear BK168101; clear HB; have HO168104 := n0_; have BK168101 := n1_; have HB := n2_; clear n0_ n1_ n2_; (try clear hb); (try clear hb2); (try clear hk); (try clear hi)))
    refine bodyPost_ret (results_list (rs := [.tmp 8, .tmp 9, .tmp 10, .tmp 11]) rfl (by simp) (.tmp (.tmp (.tmp (.tmp .nil))))) rfl ?_
    exact ⟨by first | rfl | (simp [errW_none, errW_some] <;> rfl) | (simp [*, errW_none, errW_some] <;> rfl), by repeat (first | (with_reducible first | exact HB.out | apply below_alloc | apply pw_below_drewN | apply below_drew1 | refine below_set ?_ GE168101.out) | exact HB.out)⟩

end Go.Proofs.Ytkobjjadojpjfaa.Pr
