-- A text of the machine side, written by wip/gen.py of this repo out of the translation. Not trusted: Lean checks it.
import Derived.Test.YtkobjjadojpjfaaF0
import Derived.Test.YtkobjjadojpjfaaFGC
import Derived.Test.YtkobjjadojpjfaaFGD
import Derived.Test.YtkobjjadojpjfaaFSpecChPlaces
namespace Go.Proofs.Ytkobjjadojpjfaa.Pr
open Go.RowKit Go.Proofs.YtkobjjadojpjfaaW.PrintWords Go.Proofs.YtkobjjadojpjfaaW.PrintLast Go.Proofs.YtkobjjadojpjfaaW.PrintMore
attribute [local go_sem] max2_int min2_int max_two min_two max_three min_three max_four min_four   -- for this text's walks alone
set_option linter.unusedVariables false
set_option linter.unusedSimpArgs false

/-! ### spec_AheadAfter: function 83 -/
mutual
def spec_AheadAfter.j0 : Nat → Int → Int → Int → Bool → Int → Int → Int → List (S27) → Option (Int × Int × Int × Bool)
  | 0, _, _, _, _, _, _, _, _ => none
  | k + 1, x1, x2, x3, x34, x166102000, x166102001, x166102002, x166102003 => if x34 = true then (some (0, 0, 0, false)) else ((spec_chPlaces.f k x166102000 x166102001 x166102002 x166102003 x2 x3).bind fun t166104 => ((spec_chPlaces.f k x166102000 x166102001 x166102002 x166102003 x1 x3).bind fun t166107 => (spec_AheadAfter.l0 k 0 0 0 t166104 t166107 (t166107.length : Int) 0)))
def spec_AheadAfter.l0 : Nat → Int → Int → Int → List Int → List Int → Int → Int → Option (Int × Int × Int × Bool)
  | 0, _, _, _, _, _, _, _ => none
  | k + 1, x12, x13, x14, x15, x42, x43, x44 => if x44 < x43 then (if 0 ≤ x44 then (if x44 < (x42.length : Int) then (spec_AheadAfter.l1 k x12 x13 x14 x15 x44 (rd x42 x44) x42 x43 x44 x15 (x15.length : Int) 0) else (none)) else (none)) else (some (x12, x13, x14, true))
def spec_AheadAfter.l1 : Nat → Int → Int → Int → List Int → Int → Int → List Int → Int → Int → List Int → Int → Int → Option (Int × Int × Int × Bool)
  | 0, _, _, _, _, _, _, _, _, _, _, _, _ => none
  | k + 1, x12, x13, x14, x15, x16, x17, x42, x43, x44, x49, x50, x51 => if x51 < x50 then (if 0 ≤ x51 then (if x51 < (x49.length : Int) then (if x16 > x51 then (spec_AheadAfter.l1 k (wrap64 (x12 + (wrap64 (x17 * (rd x49 x51))))) x13 x14 x15 x16 x17 x42 x43 x44 x49 x50 (wrap64 (x51 + 1))) else (if x16 = x51 then (spec_AheadAfter.l1 k x12 (wrap64 (x13 + (wrap64 (x17 * (rd x49 x51))))) x14 x15 x16 x17 x42 x43 x44 x49 x50 (wrap64 (x51 + 1))) else (spec_AheadAfter.l1 k x12 x13 (wrap64 (x14 + (wrap64 (x17 * (rd x49 x51))))) x15 x16 x17 x42 x43 x44 x49 x50 (wrap64 (x51 + 1))))) else (none)) else (none)) else (spec_AheadAfter.l0 k x12 x13 x14 x15 x42 x43 (wrap64 (x44 + 1)))
end
def spec_AheadAfter.f (k : Nat) (a0_0 : Int) (a0_1 : Int) (a0_2 : Int) (l0_3 : List (S27)) (a1 : Int) (a2 : Int) (a3 : Int) : Option (Int × Int × Int × Bool) := (spec_chAsked.f k a0_0 a0_1 a0_2 l0_3 a1 a3).bind fun t166102 => (if t166102 = true then ((spec_sqSquare.f k a0_0 a0_1 a0_2 l0_3 a2).bind fun t166103 => (if t166103 = true then (spec_AheadAfter.j0 k a1 a2 a3 (decide (a3 > 10)) a0_0 a0_1 a0_2 l0_3) else (spec_AheadAfter.j0 k a1 a2 a3 true a0_0 a0_1 a0_2 l0_3))) else (spec_AheadAfter.j0 k a1 a2 a3 true a0_0 a0_1 a0_2 l0_3))
theorem spec_AheadAfter.mono_l : ∀ k, (∀ y0 y1 y2 y3 y4 y5 y6 y7, LeO (spec_AheadAfter.j0 k y0 y1 y2 y3 y4 y5 y6 y7) (spec_AheadAfter.j0 (k + 1) y0 y1 y2 y3 y4 y5 y6 y7)) ∧ (∀ y0 y1 y2 y3 y4 y5 y6, LeO (spec_AheadAfter.l0 k y0 y1 y2 y3 y4 y5 y6) (spec_AheadAfter.l0 (k + 1) y0 y1 y2 y3 y4 y5 y6)) ∧ (∀ y0 y1 y2 y3 y4 y5 y6 y7 y8 y9 y10 y11, LeO (spec_AheadAfter.l1 k y0 y1 y2 y3 y4 y5 y6 y7 y8 y9 y10 y11) (spec_AheadAfter.l1 (k + 1) y0 y1 y2 y3 y4 y5 y6 y7 y8 y9 y10 y11))
  | 0 => ⟨fun _ _ _ _ _ _ _ _ r h => by simp [spec_AheadAfter.j0] at h, fun _ _ _ _ _ _ _ r h => by simp [spec_AheadAfter.l0] at h, fun _ _ _ _ _ _ _ _ _ _ _ _ r h => by simp [spec_AheadAfter.l1] at h⟩
  | k + 1 => by
    obtain ⟨ih0, ih1, ih2⟩ := spec_AheadAfter.mono_l k
    refine ⟨?_, ?_, ?_⟩
    · intro y0 y1 y2 y3 y4 y5 y6 y7
      unfold spec_AheadAfter.j0
      repeat' first
      | (with_reducible exact ih0 _ _ _ _ _ _ _ _)
      | (with_reducible exact ih1 _ _ _ _ _ _ _)
      | (with_reducible exact ih2 _ _ _ _ _ _ _ _ _ _ _ _)
      | (with_reducible exact spec_chAsked.mono _ _ _ _ _ _ _)
      | (with_reducible exact spec_chPlaces.mono _ _ _ _ _ _ _)
      | (with_reducible exact spec_sqSquare.mono _ _ _ _ _ _)
      | (with_reducible exact LeO.refl _)
      | (with_reducible exact LeO.none _)
      | (with_reducible refine LeO.ite ?_ ?_)
      | (with_reducible refine LeO.bind ?_ (fun _ => ?_))
      | exact ih0 _ _ _ _ _ _ _ _
      | exact ih1 _ _ _ _ _ _ _
      | exact ih2 _ _ _ _ _ _ _ _ _ _ _ _
      | exact spec_chAsked.mono _ _ _ _ _ _ _
      | exact spec_chPlaces.mono _ _ _ _ _ _ _
      | exact spec_sqSquare.mono _ _ _ _ _ _
      | exact LeO.none _
      | refine LeO.ite ?_ ?_
      | refine LeO.bind ?_ (fun _ => ?_)
    · intro y0 y1 y2 y3 y4 y5 y6
      unfold spec_AheadAfter.l0
      repeat' first
      | (with_reducible exact ih0 _ _ _ _ _ _ _ _)
      | (with_reducible exact ih1 _ _ _ _ _ _ _)
      | (with_reducible exact ih2 _ _ _ _ _ _ _ _ _ _ _ _)
      | (with_reducible exact spec_chAsked.mono _ _ _ _ _ _ _)
      | (with_reducible exact spec_chPlaces.mono _ _ _ _ _ _ _)
      | (with_reducible exact spec_sqSquare.mono _ _ _ _ _ _)
      | (with_reducible exact LeO.refl _)
      | (with_reducible exact LeO.none _)
      | (with_reducible refine LeO.ite ?_ ?_)
      | (with_reducible refine LeO.bind ?_ (fun _ => ?_))
      | exact ih0 _ _ _ _ _ _ _ _
      | exact ih1 _ _ _ _ _ _ _
      | exact ih2 _ _ _ _ _ _ _ _ _ _ _ _
      | exact spec_chAsked.mono _ _ _ _ _ _ _
      | exact spec_chPlaces.mono _ _ _ _ _ _ _
      | exact spec_sqSquare.mono _ _ _ _ _ _
      | exact LeO.none _
      | refine LeO.ite ?_ ?_
      | refine LeO.bind ?_ (fun _ => ?_)
    · intro y0 y1 y2 y3 y4 y5 y6 y7 y8 y9 y10 y11
      unfold spec_AheadAfter.l1
      repeat' first
      | (with_reducible exact ih0 _ _ _ _ _ _ _ _)
      | (with_reducible exact ih1 _ _ _ _ _ _ _)
      | (with_reducible exact ih2 _ _ _ _ _ _ _ _ _ _ _ _)
      | (with_reducible exact spec_chAsked.mono _ _ _ _ _ _ _)
      | (with_reducible exact spec_chPlaces.mono _ _ _ _ _ _ _)
      | (with_reducible exact spec_sqSquare.mono _ _ _ _ _ _)
      | (with_reducible exact LeO.refl _)
      | (with_reducible exact LeO.none _)
      | (with_reducible refine LeO.ite ?_ ?_)
      | (with_reducible refine LeO.bind ?_ (fun _ => ?_))
      | exact ih0 _ _ _ _ _ _ _ _
      | exact ih1 _ _ _ _ _ _ _
      | exact ih2 _ _ _ _ _ _ _ _ _ _ _ _
      | exact spec_chAsked.mono _ _ _ _ _ _ _
      | exact spec_chPlaces.mono _ _ _ _ _ _ _
      | exact spec_sqSquare.mono _ _ _ _ _ _
      | exact LeO.none _
      | refine LeO.ite ?_ ?_
      | refine LeO.bind ?_ (fun _ => ?_)
theorem spec_AheadAfter.mono : ∀ a0 a1 a2 a3 a4 a5 a6 k, LeO (spec_AheadAfter.f k a0 a1 a2 a3 a4 a5 a6) (spec_AheadAfter.f (k + 1) a0 a1 a2 a3 a4 a5 a6) := by
  intro a0 a1 a2 a3 a4 a5 a6 k
  obtain ⟨ih0, ih1, ih2⟩ := spec_AheadAfter.mono_l k
  unfold spec_AheadAfter.f
  repeat' first
      | (with_reducible exact ih0 _ _ _ _ _ _ _ _)
      | (with_reducible exact ih1 _ _ _ _ _ _ _)
      | (with_reducible exact ih2 _ _ _ _ _ _ _ _ _ _ _ _)
      | (with_reducible exact spec_chAsked.mono _ _ _ _ _ _ _)
      | (with_reducible exact spec_chPlaces.mono _ _ _ _ _ _ _)
      | (with_reducible exact spec_sqSquare.mono _ _ _ _ _ _)
      | (with_reducible exact LeO.refl _)
      | (with_reducible exact LeO.none _)
      | (with_reducible refine LeO.ite ?_ ?_)
      | (with_reducible refine LeO.bind ?_ (fun _ => ?_))
      | exact ih0 _ _ _ _ _ _ _ _
      | exact ih1 _ _ _ _ _ _ _
      | exact ih2 _ _ _ _ _ _ _ _ _ _ _ _
      | exact spec_chAsked.mono _ _ _ _ _ _ _
      | exact spec_chPlaces.mono _ _ _ _ _ _ _
      | exact spec_sqSquare.mono _ _ _ _ _ _
      | exact LeO.none _
      | refine LeO.ite ?_ ?_
      | refine LeO.bind ?_ (fun _ => ?_)
set_option maxHeartbeats 8000000 in
set_option maxRecDepth 100000 in
theorem spec_AheadAfter.calls (k : Nat) (a0_0 : Int) (a0_1 : Int) (a0_2 : Int) (A0_3 : Option Addr) (c0_3 : Nat) (l0_3 : List (S27)) (a1 : Int) (a2 : Int) (a3 : Int) (r1 : Int) (r2 : Int) (r3 : Int) (r4 : Bool) (w : World) (hr0_3 : Kd.C k27 w A0_3 l0_3.length l0_3) (hc0_3 : l0_3.length ≤ c0_3) (h : spec_AheadAfter.f k a0_0 a0_1 a0_2 l0_3 a1 a2 a3 = some (r1, r2, r3, r4)) :
    Calls Try.prog 83 #[.agg #[.int .i64 a0_0, .int .i64 a0_1, .int .i64 a0_2, .slice A0_3 l0_3.length c0_3], .int .i64 a1, .int .i64 a2, .int .i64 a3] w fun e w' => e = .returned (.tuple #[.int .i64 r1, .int .i64 r2, .int .i64 r3, .bool r4]) ∧ Below w.heap.size w w' := by
  have hu32 := Try.underlying32
  have HR0_3 := Aside0.mk hr0_3
  have HC0_3 := Aside0.mk hc0_3
  clear hr0_3 hc0_3
  have HB := Aside0.mk (Below.refl w.heap.size w)
  have H : ((spec_chAsked.f k a0_0 a0_1 a0_2 l0_3 a1 a3).bind fun t166102 => (if t166102 = true then ((spec_sqSquare.f k a0_0 a0_1 a0_2 l0_3 a2).bind fun t166103 => (if t166103 = true then (spec_AheadAfter.j0 k a1 a2 a3 (decide (a3 > 10)) a0_0 a0_1 a0_2 l0_3) else (spec_AheadAfter.j0 k a1 a2 a3 true a0_0 a0_1 a0_2 l0_3))) else (spec_AheadAfter.j0 k a1 a2 a3 true a0_0 a0_1 a0_2 l0_3))) = some (r1, r2, r3, r4) := h
  clear h
  have HC5 := Aside0.mk H
  clear H
  go_enter Try.func83, Try.ntmps83
  go_upto_region 1 with (first | ((with_reducible refine gate_dst (N := 4) rfl ?_); refine box_event ?hg (N := 4) ?hd (cs := #[.int .i64 a0_0, .int .i64 a0_1, .int .i64 a0_2, .slice A0_3 l0_3.length c0_3]) (t := 32) ?hr ?_; (case hd => rfl); (case hg => rfl); (case hr => first | (go_simp; done) | (go_simp; rfl)); intro gb166101 hg w6 hbox hb; have n0_ := Aside0.mk (below_step (by repeat (first | (with_reducible first | exact HB.out | apply below_alloc | apply pw_below_drewN | apply below_drew1) | exact HB.out)) hb); have n1_ := Aside0.mk (hbox); have n2_ := Aside0.mk ((by rw [hg]; exact (below_size (by repeat (first | (with_reducible first | exact HB.out | apply below_alloc | apply pw_below_drewN | apply below_drew1) | exact HB.out))) : w.heap.size ≤ gb166101)); have n3_ := Aside0.mk ((by rw [hg]; exact (below_size (by repeat (first | (with_reducible first | exact HB.out | apply below_alloc | apply pw_below_drewN | apply below_drew1) | exact HB.out))) : w.heap.size ≤ gb166101)); clear HB; have HB := n0_; have BK166101 := n1_; have GW166101 := n2_; have GE166101 := n3_; clear n0_ n1_ n2_ n3_; clear hb hbox hg))
  (try simp only [Act.put, List.setIfInBounds_toArray, List.set_cons_zero, List.set_cons_succ])
  go_cut [34] (fun v34 wc => ∃ (kq : Nat) (x34_4 : Bool), v34 = .bool x34_4 ∧ Aside0 (spec_AheadAfter.j0 kq a1 a2 a3 x34_4 a0_0 a0_1 a0_2 l0_3 = some (r1, r2, r3, r4)) ∧ Aside0 (kq ≤ k) ∧ Aside0 (wc.heap[gb166101]? = some (.cells #[.int .i64 a0_0, .int .i64 a0_1, .int .i64 a0_2, (.slice A0_3 l0_3.length c0_3)] 32 (0, 0))) ∧ Aside0 (Below w.heap.size w wc))
  case first =>
    have H := HC5.out
    clear HC5
    replace H := Option.bind_eq_some_iff.mp H
    obtain ⟨t166102, A70, H⟩ := H
    replace H : (if t166102 = true then ((spec_sqSquare.f k a0_0 a0_1 a0_2 l0_3 a2).bind fun t166103 => (if t166103 = true then (spec_AheadAfter.j0 k a1 a2 a3 (decide (a3 > 10)) a0_0 a0_1 a0_2 l0_3) else (spec_AheadAfter.j0 k a1 a2 a3 true a0_0 a0_1 a0_2 l0_3))) else (spec_AheadAfter.j0 k a1 a2 a3 true a0_0 a0_1 a0_2 l0_3)) = some (r1, r2, r3, r4) := H
    have A7 := Aside0.mk A70
    clear A70
    by_cases c8 : t166102 = true
    · subst c8
      have H1 : ((spec_sqSquare.f k a0_0 a0_1 a0_2 l0_3 a2).bind fun t166103 => (if t166103 = true then (spec_AheadAfter.j0 k a1 a2 a3 (decide (a3 > 10)) a0_0 a0_1 a0_2 l0_3) else (spec_AheadAfter.j0 k a1 a2 a3 true a0_0 a0_1 a0_2 l0_3))) = some (r1, r2, r3, r4) := by rw [if_pos rfl] at H; exact H
      clear H
      have H := H1
      clear H1
      replace H := Option.bind_eq_some_iff.mp H
      obtain ⟨t166103, A90, H⟩ := H
      replace H : (if t166103 = true then (spec_AheadAfter.j0 k a1 a2 a3 (decide (a3 > 10)) a0_0 a0_1 a0_2 l0_3) else (spec_AheadAfter.j0 k a1 a2 a3 true a0_0 a0_1 a0_2 l0_3)) = some (r1, r2, r3, r4) := H
      have A9 := Aside0.mk A90
      clear A90
      by_cases c10 : t166103 = true
      · subst c10
        have H1 : (spec_AheadAfter.j0 k a1 a2 a3 (decide (a3 > 10)) a0_0 a0_1 a0_2 l0_3) = some (r1, r2, r3, r4) := by rw [if_pos rfl] at H; exact H
        clear H
        have H := H1
        clear H1
        have H' := Aside0.mk H
        clear H
        have hcz11_0 : w6.cell? ⟨gb166101, 0, none⟩ = some (.int .i64 a0_0) := (blk_cell BK166101.out 0).trans rfl
        have hcz11_1 : w6.cell? ⟨gb166101, 1, none⟩ = some (.int .i64 a0_1) := (blk_cell BK166101.out 1).trans rfl
        have hcz11_2 : w6.cell? ⟨gb166101, 2, none⟩ = some (.int .i64 a0_2) := (blk_cell BK166101.out 2).trans rfl
        have hcz11_3 : w6.cell? ⟨gb166101, 3, none⟩ = some (.slice A0_3 l0_3.length c0_3) := (blk_cell BK166101.out 3).trans rfl
        have hfz11_0 := blk_frozen BK166101.out 0
        have hfz11_1 := blk_frozen BK166101.out 1
        have hfz11_2 := blk_frozen BK166101.out 2
        have hfz11_3 := blk_frozen BK166101.out 3
        go_wp2_with (first | ((with_reducible refine gate_callee (f := 156) rfl ?_); refine goesL_ (some 23) rfl rfl Try.func156 (by kernel_rfl) rfl #[.agg #[.int .i64 a0_0, .int .i64 a0_1, .int .i64 a0_2, .slice A0_3 l0_3.length c0_3], .int .i64 a1, .int .i64 a3] rfl (by (try simp only [List.map_toArray, List.map_cons, List.map_nil]); first | done | rfl | (simp only [List.length_drop, List.length_take]; rfl)) ?_; (with_reducible refine (spec_chAsked.calls k a0_0 a0_1 a0_2 _ _ l0_3 a1 a3 true _ ?side1 ?side2 A7.out).mono ?_); (case side1 => repeat (first | exact (Kd.C_below HR0_3.out HB.out) | (with_reducible refine Kd.C_alloc ?_ _) | (with_reducible refine Kd.C_drewN ?_ _) | (with_reducible refine Kd.C_drew ?_))); (case side2 => exact HC0_3.out); rintro e w12 ⟨rfl, hb⟩; refine ⟨_, rfl, ?_⟩; have n0_ := Aside0.mk (blk_below (g := gb166101) (o := .cells #[.int .i64 a0_0, .int .i64 a0_1, .int .i64 a0_2, .slice A0_3 l0_3.length c0_3] 32 (0, 0)) (by (with_reducible repeat (first | refine blk_drewN ?_ _ | refine blk_drew ?_ | refine blk_alloc ?_ _)); exact BK166101.out) hb); have n1_ := Aside0.mk (below_step (by repeat (first | (with_reducible first | exact HB.out | apply below_alloc | apply pw_below_drewN | apply below_drew1 | refine below_set ?_ GE166101.out) | exact HB.out)) hb); clear BK166101; clear HB; have BK166101 := n0_; have HB := n1_; clear n0_ n1_; (try clear hb); (try clear hb2); (try clear hk); (try clear hi); have hcz13_0 : w12.cell? ⟨gb166101, 0, none⟩ = some (.int .i64 a0_0) := (blk_cell BK166101.out 0).trans rfl; have hcz13_1 : w12.cell? ⟨gb166101, 1, none⟩ = some (.int .i64 a0_1) := (blk_cell BK166101.out 1).trans rfl; have hcz13_2 : w12.cell? ⟨gb166101, 2, none⟩ = some (.int .i64 a0_2) := (blk_cell BK166101.out 2).trans rfl; have hcz13_3 : w12.cell? ⟨gb166101, 3, none⟩ = some (.slice A0_3 l0_3.length c0_3) := (blk_cell BK166101.out 3).trans rfl; have hfz13_0 := blk_frozen BK166101.out 0; have hfz13_1 := blk_frozen BK166101.out 1; have hfz13_2 := blk_frozen BK166101.out 2; have hfz13_3 := blk_frozen BK166101.out 3) | (go_at_call 143; (with_reducible refine (spec_sqSquare.calls k a0_0 a0_1 a0_2 _ _ l0_3 a2 true _ ?side1 ?side2 A9.out).mono ?_); (case side1 => repeat (first | exact (Kd.C_below HR0_3.out HB.out) | (with_reducible refine Kd.C_alloc ?_ _) | (with_reducible refine Kd.C_drewN ?_ _) | (with_reducible refine Kd.C_drew ?_))); (case side2 => exact HC0_3.out); rintro e w14 ⟨rfl, hb⟩; have n0_ := Aside0.mk (blk_below (g := gb166101) (o := .cells #[.int .i64 a0_0, .int .i64 a0_1, .int .i64 a0_2, .slice A0_3 l0_3.length c0_3] 32 (0, 0)) (by (with_reducible repeat (first | refine blk_drewN ?_ _ | refine blk_drew ?_ | refine blk_alloc ?_ _)); exact BK166101.out) hb); have n1_ := Aside0.mk (below_step (by repeat (first | (with_reducible first | exact HB.out | apply below_alloc | apply pw_below_drewN | apply below_drew1 | refine below_set ?_ GE166101.out) | exact HB.out)) hb); clear BK166101; clear HB; have BK166101 := n0_; have HB := n1_; clear n0_ n1_; (try clear hb); (try clear hb2); (try clear hk); (try clear hi)))
        go_meet
        case rel => exact ⟨_, (decide (a3 > 10)), (by first | rfl | (simp; done) | (simp [*]; done)), H', ⟨by first | omega | exact Nat.le_refl _⟩, ⟨by (with_reducible repeat (first | refine blk_drewN ?_ _ | refine blk_drew ?_ | refine blk_alloc ?_ _)); exact BK166101.out⟩, ⟨by repeat (first | (with_reducible first | exact HB.out | apply below_alloc | apply pw_below_drewN | apply below_drew1 | refine below_set ?_ GE166101.out) | exact HB.out)⟩⟩
      · replace c10 := Bool.eq_false_iff.mpr c10
        subst c10
        have H1 : (spec_AheadAfter.j0 k a1 a2 a3 true a0_0 a0_1 a0_2 l0_3) = some (r1, r2, r3, r4) := by rw [if_neg (show ¬ (false = true) by decide)] at H; exact H
        clear H
        have H := H1
        clear H1
        have H' := Aside0.mk H
        clear H
        have hcz15_0 : w6.cell? ⟨gb166101, 0, none⟩ = some (.int .i64 a0_0) := (blk_cell BK166101.out 0).trans rfl
        have hcz15_1 : w6.cell? ⟨gb166101, 1, none⟩ = some (.int .i64 a0_1) := (blk_cell BK166101.out 1).trans rfl
        have hcz15_2 : w6.cell? ⟨gb166101, 2, none⟩ = some (.int .i64 a0_2) := (blk_cell BK166101.out 2).trans rfl
        have hcz15_3 : w6.cell? ⟨gb166101, 3, none⟩ = some (.slice A0_3 l0_3.length c0_3) := (blk_cell BK166101.out 3).trans rfl
        have hfz15_0 := blk_frozen BK166101.out 0
        have hfz15_1 := blk_frozen BK166101.out 1
        have hfz15_2 := blk_frozen BK166101.out 2
        have hfz15_3 := blk_frozen BK166101.out 3
        go_wp2_with (first | ((with_reducible refine gate_callee (f := 156) rfl ?_); refine goesL_ (some 23) rfl rfl Try.func156 (by kernel_rfl) rfl #[.agg #[.int .i64 a0_0, .int .i64 a0_1, .int .i64 a0_2, .slice A0_3 l0_3.length c0_3], .int .i64 a1, .int .i64 a3] rfl (by (try simp only [List.map_toArray, List.map_cons, List.map_nil]); first | done | rfl | (simp only [List.length_drop, List.length_take]; rfl)) ?_; (with_reducible refine (spec_chAsked.calls k a0_0 a0_1 a0_2 _ _ l0_3 a1 a3 true _ ?side1 ?side2 A7.out).mono ?_); (case side1 => repeat (first | exact (Kd.C_below HR0_3.out HB.out) | (with_reducible refine Kd.C_alloc ?_ _) | (with_reducible refine Kd.C_drewN ?_ _) | (with_reducible refine Kd.C_drew ?_))); (case side2 => exact HC0_3.out); rintro e w16 ⟨rfl, hb⟩; refine ⟨_, rfl, ?_⟩; have n0_ := Aside0.mk (blk_below (g := gb166101) (o := .cells #[.int .i64 a0_0, .int .i64 a0_1, .int .i64 a0_2, .slice A0_3 l0_3.length c0_3] 32 (0, 0)) (by (with_reducible repeat (first | refine blk_drewN ?_ _ | refine blk_drew ?_ | refine blk_alloc ?_ _)); exact BK166101.out) hb); have n1_ := Aside0.mk (below_step (by repeat (first | (with_reducible first | exact HB.out | apply below_alloc | apply pw_below_drewN | apply below_drew1 | refine below_set ?_ GE166101.out) | exact HB.out)) hb); clear BK166101; clear HB; have BK166101 := n0_; have HB := n1_; clear n0_ n1_; (try clear hb); (try clear hb2); (try clear hk); (try clear hi); have hcz17_0 : w16.cell? ⟨gb166101, 0, none⟩ = some (.int .i64 a0_0) := (blk_cell BK166101.out 0).trans rfl; have hcz17_1 : w16.cell? ⟨gb166101, 1, none⟩ = some (.int .i64 a0_1) := (blk_cell BK166101.out 1).trans rfl; have hcz17_2 : w16.cell? ⟨gb166101, 2, none⟩ = some (.int .i64 a0_2) := (blk_cell BK166101.out 2).trans rfl; have hcz17_3 : w16.cell? ⟨gb166101, 3, none⟩ = some (.slice A0_3 l0_3.length c0_3) := (blk_cell BK166101.out 3).trans rfl; have hfz17_0 := blk_frozen BK166101.out 0; have hfz17_1 := blk_frozen BK166101.out 1; have hfz17_2 := blk_frozen BK166101.out 2; have hfz17_3 := blk_frozen BK166101.out 3) | (go_at_call 143; (with_reducible refine (spec_sqSquare.calls k a0_0 a0_1 a0_2 _ _ l0_3 a2 false _ ?side1 ?side2 A9.out).mono ?_); (case side1 => repeat (first | exact (Kd.C_below HR0_3.out HB.out) | (with_reducible refine Kd.C_alloc ?_ _) | (with_reducible refine Kd.C_drewN ?_ _) | (with_reducible refine Kd.C_drew ?_))); (case side2 => exact HC0_3.out); rintro e w18 ⟨rfl, hb⟩; have n0_ := Aside0.mk (blk_below (g := gb166101) (o := .cells #[.int .i64 a0_0, .int .i64 a0_1, .int .i64 a0_2, .slice A0_3 l0_3.length c0_3] 32 (0, 0)) (by (with_reducible repeat (first | refine blk_drewN ?_ _ | refine blk_drew ?_ | refine blk_alloc ?_ _)); exact BK166101.out) hb); have n1_ := Aside0.mk (below_step (by repeat (first | (with_reducible first | exact HB.out | apply below_alloc | apply pw_below_drewN | apply below_drew1 | refine below_set ?_ GE166101.out) | exact HB.out)) hb); clear BK166101; clear HB; have BK166101 := n0_; have HB := n1_; clear n0_ n1_; (try clear hb); (try clear hb2); (try clear hk); (try clear hi)))
        go_meet
        case rel => exact ⟨_, (true), (by first | rfl | (simp; done) | (simp [*]; done)), H', ⟨by first | omega | exact Nat.le_refl _⟩, ⟨by (with_reducible repeat (first | refine blk_drewN ?_ _ | refine blk_drew ?_ | refine blk_alloc ?_ _)); exact BK166101.out⟩, ⟨by repeat (first | (with_reducible first | exact HB.out | apply below_alloc | apply pw_below_drewN | apply below_drew1 | refine below_set ?_ GE166101.out) | exact HB.out)⟩⟩
    · replace c8 := Bool.eq_false_iff.mpr c8
      subst c8
      have H1 : (spec_AheadAfter.j0 k a1 a2 a3 true a0_0 a0_1 a0_2 l0_3) = some (r1, r2, r3, r4) := by rw [if_neg (show ¬ (false = true) by decide)] at H; exact H
      clear H
      have H := H1
      clear H1
      have H' := Aside0.mk H
      clear H
      have hcz19_0 : w6.cell? ⟨gb166101, 0, none⟩ = some (.int .i64 a0_0) := (blk_cell BK166101.out 0).trans rfl
      have hcz19_1 : w6.cell? ⟨gb166101, 1, none⟩ = some (.int .i64 a0_1) := (blk_cell BK166101.out 1).trans rfl
      have hcz19_2 : w6.cell? ⟨gb166101, 2, none⟩ = some (.int .i64 a0_2) := (blk_cell BK166101.out 2).trans rfl
      have hcz19_3 : w6.cell? ⟨gb166101, 3, none⟩ = some (.slice A0_3 l0_3.length c0_3) := (blk_cell BK166101.out 3).trans rfl
      have hfz19_0 := blk_frozen BK166101.out 0
      have hfz19_1 := blk_frozen BK166101.out 1
      have hfz19_2 := blk_frozen BK166101.out 2
      have hfz19_3 := blk_frozen BK166101.out 3
      go_wp2_with (first | ((with_reducible refine gate_callee (f := 156) rfl ?_); refine goesL_ (some 23) rfl rfl Try.func156 (by kernel_rfl) rfl #[.agg #[.int .i64 a0_0, .int .i64 a0_1, .int .i64 a0_2, .slice A0_3 l0_3.length c0_3], .int .i64 a1, .int .i64 a3] rfl (by (try simp only [List.map_toArray, List.map_cons, List.map_nil]); first | done | rfl | (simp only [List.length_drop, List.length_take]; rfl)) ?_; (with_reducible refine (spec_chAsked.calls k a0_0 a0_1 a0_2 _ _ l0_3 a1 a3 false _ ?side1 ?side2 A7.out).mono ?_); (case side1 => repeat (first | exact (Kd.C_below HR0_3.out HB.out) | (with_reducible refine Kd.C_alloc ?_ _) | (with_reducible refine Kd.C_drewN ?_ _) | (with_reducible refine Kd.C_drew ?_))); (case side2 => exact HC0_3.out); rintro e w20 ⟨rfl, hb⟩; refine ⟨_, rfl, ?_⟩; have n0_ := Aside0.mk (blk_below (g := gb166101) (o := .cells #[.int .i64 a0_0, .int .i64 a0_1, .int .i64 a0_2, .slice A0_3 l0_3.length c0_3] 32 (0, 0)) (by (with_reducible repeat (first | refine blk_drewN ?_ _ | refine blk_drew ?_ | refine blk_alloc ?_ _)); exact BK166101.out) hb); have n1_ := Aside0.mk (below_step (by repeat (first | (with_reducible first | exact HB.out | apply below_alloc | apply pw_below_drewN | apply below_drew1 | refine below_set ?_ GE166101.out) | exact HB.out)) hb); clear BK166101; clear HB; have BK166101 := n0_; have HB := n1_; clear n0_ n1_; (try clear hb); (try clear hb2); (try clear hk); (try clear hi)))
      go_meet
      case rel => exact ⟨_, (true), (by first | rfl | (simp; done) | (simp [*]; done)), H', ⟨by first | omega | exact Nat.le_refl _⟩, ⟨by (with_reducible repeat (first | refine blk_drewN ?_ _ | refine blk_drew ?_ | refine blk_alloc ?_ _)); exact BK166101.out⟩, ⟨by repeat (first | (with_reducible first | exact HB.out | apply below_alloc | apply pw_below_drewN | apply below_drew1 | refine below_set ?_ GE166101.out) | exact HB.out)⟩⟩
  case rest =>
    clear HC5
    try clear c1
    try clear p2
    try clear c8
    try clear c10
    try clear c15
    try clear hcz11_0
    try clear hcz11_1
    try clear hcz11_2
    try clear hcz11_3
    try clear hcz13_0
    try clear hcz13_1
    try clear hcz13_2
    try clear hcz13_3
    try clear hcz15_0
    try clear hcz15_1
    try clear hcz15_2
    try clear hcz15_3
    try clear hcz17_0
    try clear hcz17_1
    try clear hcz17_2
    try clear hcz17_3
    try clear hcz19_0
    try clear hcz19_1
    try clear hcz19_2
    try clear hcz19_3
    try clear hfz11_0
    try clear hfz11_1
    try clear hfz11_2
    try clear hfz11_3
    try clear hfz13_0
    try clear hfz13_1
    try clear hfz13_2
    try clear hfz13_3
    try clear hfz15_0
    try clear hfz15_1
    try clear hfz15_2
    try clear hfz15_3
    try clear hfz17_0
    try clear hfz17_1
    try clear hfz17_2
    try clear hfz17_3
    try clear hfz19_0
    try clear hfz19_1
    try clear hfz19_2
    try clear hfz19_3
    obtain ⟨kq, x34_4, rfl, HA, HJ4, BK166101, HB⟩ := hcut
    cases kq with
    | zero => exact absurd HA.out (by simp [spec_AheadAfter.j0])
    | succ kj4 =>
      have H := HA.out
      clear HA
      simp only [spec_AheadAfter.j0] at H
      by_cases c21 : x34_4 = true
      · subst c21
        have H1 : (some (0, 0, 0, false)) = some (r1, r2, r3, r4) := by rw [if_pos rfl] at H; exact H
        clear H
        have H := H1
        clear H1
        simp only [Option.some.injEq, Prod.mk.injEq] at H
        obtain ⟨rfl, rfl, rfl, rfl⟩ := H
        go_wp2
        refine bodyPost_ret (results_list (rs := [.tmp 8, .tmp 9, .tmp 10, .tmp 11]) rfl (by simp) (.tmp (.tmp (.tmp (.tmp .nil))))) rfl ?_
        exact ⟨by first | rfl | (simp [errW_none, errW_some] <;> rfl) | (simp [*, errW_none, errW_some] <;> rfl), by repeat (first | (with_reducible first | exact HB.out | apply below_alloc | apply pw_below_drewN | apply below_drew1 | refine below_set ?_ GE166101.out) | exact HB.out)⟩
      · replace c21 := Bool.eq_false_iff.mpr c21
        subst c21
        have H1 : ((spec_chPlaces.f kj4 a0_0 a0_1 a0_2 l0_3 a2 a3).bind fun t166104 => ((spec_chPlaces.f kj4 a0_0 a0_1 a0_2 l0_3 a1 a3).bind fun t166107 => (spec_AheadAfter.l0 kj4 0 0 0 t166104 t166107 (t166107.length : Int) 0))) = some (r1, r2, r3, r4) := by rw [if_neg (show ¬ (false = true) by decide)] at H; exact H
        clear H
        have H := H1
        clear H1
        replace H := Option.bind_eq_some_iff.mp H
        obtain ⟨t166104, A220, H⟩ := H
        replace H : ((spec_chPlaces.f kj4 a0_0 a0_1 a0_2 l0_3 a1 a3).bind fun t166107 => (spec_AheadAfter.l0 kj4 0 0 0 t166104 t166107 (t166107.length : Int) 0)) = some (r1, r2, r3, r4) := H
        have A22 := Aside0.mk A220
        clear A220
        replace H := Option.bind_eq_some_iff.mp H
        obtain ⟨t166107, A230, H⟩ := H
        replace H : (spec_AheadAfter.l0 kj4 0 0 0 t166104 t166107 (t166107.length : Int) 0) = some (r1, r2, r3, r4) := H
        have A23 := Aside0.mk A230
        clear A230
        have H' := Aside0.mk H
        clear H
        have hcz24_0 : wc.cell? ⟨gb166101, 0, none⟩ = some (.int .i64 a0_0) := (blk_cell BK166101.out 0).trans rfl
        have hcz24_1 : wc.cell? ⟨gb166101, 1, none⟩ = some (.int .i64 a0_1) := (blk_cell BK166101.out 1).trans rfl
        have hcz24_2 : wc.cell? ⟨gb166101, 2, none⟩ = some (.int .i64 a0_2) := (blk_cell BK166101.out 2).trans rfl
        have hcz24_3 : wc.cell? ⟨gb166101, 3, none⟩ = some (.slice A0_3 l0_3.length c0_3) := (blk_cell BK166101.out 3).trans rfl
        have hfz24_0 := blk_frozen BK166101.out 0
        have hfz24_1 := blk_frozen BK166101.out 1
        have hfz24_2 := blk_frozen BK166101.out 2
        have hfz24_3 := blk_frozen BK166101.out 3
        go_wp2_with (first | ((with_reducible refine gate_callee (f := 157) rfl ?_); refine goesL_ (some 38) rfl rfl Try.func157 (by kernel_rfl) rfl #[.agg #[.int .i64 a0_0, .int .i64 a0_1, .int .i64 a0_2, .slice A0_3 l0_3.length c0_3], .int .i64 a2, .int .i64 a3] rfl (by (try simp only [List.map_toArray, List.map_cons, List.map_nil]); first | done | rfl | (simp only [List.length_drop, List.length_take]; rfl)) ?_; (with_reducible refine (spec_chPlaces.calls kj4 a0_0 a0_1 a0_2 _ _ l0_3 a2 a3 t166104 _ ?side1 ?side2 A22.out).mono ?_); (case side1 => repeat (first | exact (Kd.C_below HR0_3.out HB.out) | (with_reducible refine Kd.C_alloc ?_ _) | (with_reducible refine Kd.C_drewN ?_ _) | (with_reducible refine Kd.C_drew ?_))); (case side2 => exact HC0_3.out); rintro e w25 ⟨v166105, rfl, ho0, hb⟩; refine ⟨_, rfl, ?_⟩; have n0_ := Aside0.mk (Kd.R_lower ho0 (below_size (by repeat (first | (with_reducible first | exact HB.out | apply below_alloc | apply pw_below_drewN | apply below_drew1 | refine below_set ?_ GE166101.out) | exact HB.out)))); have n1_ := Aside0.mk (blk_below (g := gb166101) (o := .cells #[.int .i64 a0_0, .int .i64 a0_1, .int .i64 a0_2, .slice A0_3 l0_3.length c0_3] 32 (0, 0)) (by (with_reducible repeat (first | refine blk_drewN ?_ _ | refine blk_drew ?_ | refine blk_alloc ?_ _)); exact BK166101.out) hb); have n2_ := Aside0.mk (below_step (by repeat (first | (with_reducible first | exact HB.out | apply below_alloc | apply pw_below_drewN | apply below_drew1 | refine below_set ?_ GE166101.out) | exact HB.out)) hb); clear BK166101; clear HB; have HO166106 := n0_; have BK166101 := n1_; have HB := n2_; clear n0_ n1_ n2_; (try clear hb); (try clear hb2); (try clear hk); (try clear hi); (try clear ho0); have hcz26_0 : w25.cell? ⟨gb166101, 0, none⟩ = some (.int .i64 a0_0) := (blk_cell BK166101.out 0).trans rfl; have hcz26_1 : w25.cell? ⟨gb166101, 1, none⟩ = some (.int .i64 a0_1) := (blk_cell BK166101.out 1).trans rfl; have hcz26_2 : w25.cell? ⟨gb166101, 2, none⟩ = some (.int .i64 a0_2) := (blk_cell BK166101.out 2).trans rfl; have hcz26_3 : w25.cell? ⟨gb166101, 3, none⟩ = some (.slice A0_3 l0_3.length c0_3) := (blk_cell BK166101.out 3).trans rfl; have hfz26_0 := blk_frozen BK166101.out 0; have hfz26_1 := blk_frozen BK166101.out 1; have hfz26_2 := blk_frozen BK166101.out 2; have hfz26_3 := blk_frozen BK166101.out 3) | ((with_reducible refine gate_callee (f := 157) rfl ?_); refine goesL_ (some 42) rfl rfl Try.func157 (by kernel_rfl) rfl #[.agg #[.int .i64 a0_0, .int .i64 a0_1, .int .i64 a0_2, .slice A0_3 l0_3.length c0_3], .int .i64 a1, .int .i64 a3] rfl (by (try simp only [List.map_toArray, List.map_cons, List.map_nil]); first | done | rfl | (simp only [List.length_drop, List.length_take]; rfl)) ?_; (with_reducible refine (spec_chPlaces.calls kj4 a0_0 a0_1 a0_2 _ _ l0_3 a1 a3 t166107 _ ?side1 ?side2 A23.out).mono ?_); (case side1 => repeat (first | exact (Kd.C_below HR0_3.out HB.out) | (with_reducible refine Kd.C_alloc ?_ _) | (with_reducible refine Kd.C_drewN ?_ _) | (with_reducible refine Kd.C_drew ?_))); (case side2 => exact HC0_3.out); rintro e w27 ⟨v166108, rfl, ho0, hb⟩; refine ⟨_, rfl, ?_⟩; have n0_ := Aside0.mk (Kd.R_elder' (by (with_reducible repeat (first | apply Kd.R_alloc | apply Kd.R_drewN | apply Kd.R_drew)); exact HO166106.out) (Kd.R_base ho0) hb); have n1_ := Aside0.mk (Kd.R_lower (Kd.R_new' ho0 (Kd.R_lt (by (with_reducible repeat (first | apply Kd.R_alloc | apply Kd.R_drewN | apply Kd.R_drew)); exact HO166106.out))) (below_size (by repeat (first | (with_reducible first | exact HB.out | apply below_alloc | apply pw_below_drewN | apply below_drew1 | refine below_set ?_ GE166101.out) | exact HB.out)))); have n2_ := Aside0.mk (blk_below (g := gb166101) (o := .cells #[.int .i64 a0_0, .int .i64 a0_1, .int .i64 a0_2, .slice A0_3 l0_3.length c0_3] 32 (0, 0)) (by (with_reducible repeat (first | refine blk_drewN ?_ _ | refine blk_drew ?_ | refine blk_alloc ?_ _)); exact BK166101.out) hb); have n3_ := Aside0.mk (below_step (by repeat (first | (with_reducible first | exact HB.out | apply below_alloc | apply pw_below_drewN | apply below_drew1 | refine below_set ?_ GE166101.out) | exact HB.out)) hb); clear HO166106; clear BK166101; clear HB; have HO166106 := n0_; have HO166109 := n1_; have BK166101 := n2_; have HB := n3_; clear n0_ n1_ n2_ n3_; (try clear hb); (try clear hb2); (try clear hk); (try clear hi); (try clear ho0); obtain ⟨Ao28, co28, eo28⟩ := Kd.R_slice HO166109.out; subst eo28))
        go_loopg [12, 13, 14, 44] kj4 (fun kq v12 v13 v14 v44 w' => ∃ (x12_2 : Int) (x13_2 : Int) (x14_2 : Int) (x44_2 : Int), v12 = .int .i64 x12_2 ∧ v13 = .int .i64 x13_2 ∧ v14 = .int .i64 x14_2 ∧ v44 = .int .i64 x44_2 ∧ Aside0 (spec_AheadAfter.l0 kq x12_2 x13_2 x14_2 t166104 t166107 (t166107.length : Int) x44_2 = some (r1, r2, r3, r4)) ∧ Aside0 (kq ≤ kj4) ∧ Aside0 (Kd.R (Kd.int .i64) 3 w' w.heap.size (fun k_ => some k_ ≠ ((.slice Ao28 t166107.length co28) : Value).ownBlock) v166105 t166104) ∧ Aside0 (Kd.R (Kd.int .i64) 3 w' w.heap.size (fun k_ => some k_ ≠ (v166105 : Value).ownBlock) (.slice Ao28 t166107.length co28) t166107) ∧ Aside0 (w'.heap[gb166101]? = some (.cells #[.int .i64 a0_0, .int .i64 a0_1, .int .i64 a0_2, (.slice A0_3 l0_3.length c0_3)] 32 (0, 0))) ∧ Aside0 (Below w.heap.size w w'))
        case atStart => exact ⟨(0), (0), (0), (0), (by first | rfl | (simp; done) | (simp [*]; done)), (by first | rfl | (simp; done) | (simp [*]; done)), (by first | rfl | (simp; done) | (simp [*]; done)), (by first | rfl | (simp; done) | (simp [*]; done)), H', ⟨Nat.le_refl _⟩, ⟨by (with_reducible repeat (first | apply Kd.R_alloc | apply Kd.R_drewN | apply Kd.R_drew)); exact Kd.R_mono HO166106.out (fun _ hk => hk.2)⟩, ⟨by (with_reducible repeat (first | apply Kd.R_alloc | apply Kd.R_drewN | apply Kd.R_drew)); exact Kd.R_mono HO166109.out (fun _ hk => hk.2)⟩, ⟨by (with_reducible repeat (first | refine blk_drewN ?_ _ | refine blk_drew ?_ | refine blk_alloc ?_ _)); exact BK166101.out⟩, ⟨by repeat (first | (with_reducible first | exact HB.out | apply below_alloc | apply pw_below_drewN | apply below_drew1 | refine below_set ?_ GE166101.out) | exact HB.out)⟩⟩
        case round =>
          clear H'
          try clear c1
          try clear c2
          try clear p2
          try clear c8
          try clear c10
          try clear c15
          try clear c21
          try clear hcz11_0
          try clear hcz11_1
          try clear hcz11_2
          try clear hcz11_3
          try clear hcz13_0
          try clear hcz13_1
          try clear hcz13_2
          try clear hcz13_3
          try clear hcz15_0
          try clear hcz15_1
          try clear hcz15_2
          try clear hcz15_3
          try clear hcz17_0
          try clear hcz17_1
          try clear hcz17_2
          try clear hcz17_3
          try clear hcz19_0
          try clear hcz19_1
          try clear hcz19_2
          try clear hcz19_3
          try clear hcz24_0
          try clear hcz24_1
          try clear hcz24_2
          try clear hcz24_3
          try clear hcz26_0
          try clear hcz26_1
          try clear hcz26_2
          try clear hcz26_3
          try clear hfz11_0
          try clear hfz11_1
          try clear hfz11_2
          try clear hfz11_3
          try clear hfz13_0
          try clear hfz13_1
          try clear hfz13_2
          try clear hfz13_3
          try clear hfz15_0
          try clear hfz15_1
          try clear hfz15_2
          try clear hfz15_3
          try clear hfz17_0
          try clear hfz17_1
          try clear hfz17_2
          try clear hfz17_3
          try clear hfz19_0
          try clear hfz19_1
          try clear hfz19_2
          try clear hfz19_3
          try clear hfz24_0
          try clear hfz24_1
          try clear hfz24_2
          try clear hfz24_3
          try clear hfz26_0
          try clear hfz26_1
          try clear hfz26_2
          try clear hfz26_3
          try clear p2
          obtain ⟨x12_2, x13_2, x14_2, x44_2, rfl, rfl, rfl, rfl, HA, HK2, HO_15, HO_42, BK166101, HB⟩ := hrel
          cases gk with
          | zero => exact absurd HA.out (by simp [spec_AheadAfter.l0])
          | succ k2 =>
            have H := HA.out
            clear HA
            simp only [spec_AheadAfter.l0] at H
            by_cases c29 : x44_2 < (t166107.length : Int)
            · rw [if_pos c29] at H
              have c29b0 : decide (x44_2 < (t166107.length : Int)) = true := decide_eq_true c29
              clear c29
              by_cases c30 : 0 ≤ x44_2
              · rw [if_pos c30] at H
                have c30b0 : decide (0 ≤ x44_2) = true := decide_eq_true c30
                clear c30
                by_cases c31 : x44_2 < (t166107.length : Int)
                · rw [if_pos c31] at H
                  have c31b0 : decide (x44_2 < (t166107.length : Int)) = true := decide_eq_true c31
                  clear c31
                  have H' := Aside0.mk H
                  clear H
                  have p166110 : 0 ≤ (x44_2 : Int) := of_decide_eq_true (by first | (with_reducible assumption) | assumption)
                  have q166110 : x44_2 < (t166107.length : Int) := of_decide_eq_true (by first | (with_reducible assumption) | assumption)
                  obtain ⟨ad166110, e166110, hx166110_0⟩ := Kd.at_int (Kd.R_reads' HO_42.out).2.2 x44_2 p166110 q166110
                  cases e166110
                  replace p166110 := eq_true p166110
                  replace q166110 := eq_true q166110
                  obtain ⟨Ao32, co32, eo32⟩ := Kd.R_slice HO_15.out
                  subst eo32
                  go_wp2
                  go_loopg [12, 13, 14, 51] k2 (fun kq v12 v13 v14 v51 w' => ∃ (x12_3 : Int) (x13_3 : Int) (x14_3 : Int) (x51_3 : Int), v12 = .int .i64 x12_3 ∧ v13 = .int .i64 x13_3 ∧ v14 = .int .i64 x14_3 ∧ v51 = .int .i64 x51_3 ∧ Aside0 (spec_AheadAfter.l1 kq x12_3 x13_3 x14_3 t166104 x44_2 (rd t166107 x44_2) t166107 (t166107.length : Int) x44_2 t166104 (t166104.length : Int) x51_3 = some (r1, r2, r3, r4)) ∧ Aside0 (kq ≤ k2) ∧ Aside0 (Kd.R (Kd.int .i64) 3 w' w.heap.size (fun k_ => some k_ ≠ ((.slice (some ad166110) t166107.length co28) : Value).ownBlock) (.slice Ao32 t166104.length co32) t166104) ∧ Aside0 (Kd.R (Kd.int .i64) 3 w' w.heap.size (fun k_ => some k_ ≠ ((.slice Ao32 t166104.length co32) : Value).ownBlock ∧ some k_ ≠ ((.slice Ao32 t166104.length co32) : Value).ownBlock) (.slice (some ad166110) t166107.length co28) t166107) ∧ Aside0 (Kd.R (Kd.int .i64) 3 w' w.heap.size (fun k_ => some k_ ≠ ((.slice (some ad166110) t166107.length co28) : Value).ownBlock) (.slice Ao32 t166104.length co32) t166104) ∧ Aside0 (w'.heap[gb166101]? = some (.cells #[.int .i64 a0_0, .int .i64 a0_1, .int .i64 a0_2, (.slice A0_3 l0_3.length c0_3)] 32 (0, 0))) ∧ Aside0 (Below w.heap.size w w'))
                  case atStart => exact ⟨(x12_2), (x13_2), (x14_2), (0), (by first | rfl | (simp; done) | (simp [*]; done)), (by first | rfl | (simp; done) | (simp [*]; done)), (by first | rfl | (simp; done) | (simp [*]; done)), (by first | rfl | (simp; done) | (simp [*]; done)), H', ⟨Nat.le_refl _⟩, ⟨by (with_reducible repeat (first | apply Kd.R_alloc | apply Kd.R_drewN | apply Kd.R_drew)); exact HO_15.out⟩, ⟨by (with_reducible repeat (first | apply Kd.R_alloc | apply Kd.R_drewN | apply Kd.R_drew)); exact Kd.R_mono HO_42.out (fun _ hk => ⟨hk, hk⟩)⟩, ⟨by (with_reducible repeat (first | apply Kd.R_alloc | apply Kd.R_drewN | apply Kd.R_drew)); exact HO_15.out⟩, ⟨by (with_reducible repeat (first | refine blk_drewN ?_ _ | refine blk_drew ?_ | refine blk_alloc ?_ _)); exact BK166101.out⟩, ⟨by repeat (first | (with_reducible first | exact HB.out | apply below_alloc | apply pw_below_drewN | apply below_drew1 | refine below_set ?_ GE166101.out) | exact HB.out)⟩⟩
                  case round =>
                    clear H'
                    try clear c1
                    try clear p1
                    try clear q1
                    try clear hx1
                    try clear c2
                    try clear p2
                    try clear c3
                    try clear c8
                    try clear c10
                    try clear c15
                    try clear p16
                    try clear q16
                    try clear hx16
                    try clear c21
                    try clear c29
                    try clear c29b0
                    try clear c30
                    try clear c30b0
                    try clear c31
                    try clear c31b0
                    try clear hcz11_0
                    try clear hcz11_1
                    try clear hcz11_2
                    try clear hcz11_3
                    try clear hcz13_0
                    try clear hcz13_1
                    try clear hcz13_2
                    try clear hcz13_3
                    try clear hcz15_0
                    try clear hcz15_1
                    try clear hcz15_2
                    try clear hcz15_3
                    try clear hcz17_0
                    try clear hcz17_1
                    try clear hcz17_2
                    try clear hcz17_3
                    try clear hcz19_0
                    try clear hcz19_1
                    try clear hcz19_2
                    try clear hcz19_3
                    try clear hcz24_0
                    try clear hcz24_1
                    try clear hcz24_2
                    try clear hcz24_3
                    try clear hcz26_0
                    try clear hcz26_1
                    try clear hcz26_2
                    try clear hcz26_3
                    try clear hfz11_0
                    try clear hfz11_1
                    try clear hfz11_2
                    try clear hfz11_3
                    try clear hfz13_0
                    try clear hfz13_1
                    try clear hfz13_2
                    try clear hfz13_3
                    try clear hfz15_0
                    try clear hfz15_1
                    try clear hfz15_2
                    try clear hfz15_3
                    try clear hfz17_0
                    try clear hfz17_1
                    try clear hfz17_2
                    try clear hfz17_3
                    try clear hfz19_0
                    try clear hfz19_1
                    try clear hfz19_2
                    try clear hfz19_3
                    try clear hfz24_0
                    try clear hfz24_1
                    try clear hfz24_2
                    try clear hfz24_3
                    try clear hfz26_0
                    try clear hfz26_1
                    try clear hfz26_2
                    try clear hfz26_3
                    try clear hx166110_0
                    try clear p166110
                    try clear p2
                    try clear q166110
                    obtain ⟨x12_3, x13_3, x14_3, x51_3, rfl, rfl, rfl, rfl, HA, HK3, HO_15, HO_42, HO_49, BK166101, HB⟩ := hrel
                    cases gk with
                    | zero => exact absurd HA.out (by simp [spec_AheadAfter.l1])
                    | succ k3 =>
                      have H := HA.out
                      clear HA
                      simp only [spec_AheadAfter.l1] at H
                      by_cases c33 : x51_3 < (t166104.length : Int)
                      · rw [if_pos c33] at H
                        have c33b0 : decide (x51_3 < (t166104.length : Int)) = true := decide_eq_true c33
                        clear c33
                        by_cases c34 : 0 ≤ x51_3
                        · rw [if_pos c34] at H
                          have c34b0 : decide (0 ≤ x51_3) = true := decide_eq_true c34
                          clear c34
                          by_cases c35 : x51_3 < (t166104.length : Int)
                          · rw [if_pos c35] at H
                            have c35b0 : decide (x51_3 < (t166104.length : Int)) = true := decide_eq_true c35
                            clear c35
                            by_cases c36 : x44_2 > x51_3
                            · rw [if_pos c36] at H
                              have c36b0 : decide (x51_3 < x44_2) = true := decide_eq_true c36
                              clear c36
                              have H' := Aside0.mk H
                              clear H
                              have p166111 : 0 ≤ (x51_3 : Int) := of_decide_eq_true (by first | (with_reducible assumption) | assumption)
                              have q166111 : x51_3 < (t166104.length : Int) := of_decide_eq_true (by first | (with_reducible assumption) | assumption)
                              obtain ⟨ad166111, e166111, hx166111_0⟩ := Kd.at_int (Kd.R_reads' HO_49.out).2.2 x51_3 p166111 q166111
                              cases e166111
                              replace p166111 := eq_true p166111
                              replace q166111 := eq_true q166111
                              go_wp2
                              go_roundg k3
                              case measure => have := HJ4.out; have := HK2.out; have := HK3.out; omega
                              case rel => exact ⟨(wrap64 (x12_3 + (wrap64 ((rd t166107 x44_2) * (rd t166104 x51_3))))), (x13_3), (x14_3), (wrap64 (x51_3 + 1)), (by first | rfl | (simp; done) | (simp [*]; done)), (by first | rfl | (simp; done) | (simp [*]; done)), (by first | rfl | (simp; done) | (simp [*]; done)), (by first | rfl | (simp; done) | (simp [*]; done)), H', ⟨by have := HJ4.out; have := HK2.out; have := HK3.out; omega⟩, ⟨by (with_reducible repeat (first | apply Kd.R_alloc | apply Kd.R_drewN | apply Kd.R_drew)); exact HO_15.out⟩, ⟨by (with_reducible repeat (first | apply Kd.R_alloc | apply Kd.R_drewN | apply Kd.R_drew)); exact HO_42.out⟩, ⟨by (with_reducible repeat (first | apply Kd.R_alloc | apply Kd.R_drewN | apply Kd.R_drew)); exact HO_49.out⟩, ⟨by (with_reducible repeat (first | refine blk_drewN ?_ _ | refine blk_drew ?_ | refine blk_alloc ?_ _)); exact BK166101.out⟩, ⟨by repeat (first | (with_reducible first | exact HB.out | apply below_alloc | apply pw_below_drewN | apply below_drew1 | refine below_set ?_ GE166101.out) | exact HB.out)⟩⟩
                            · rw [if_neg c36] at H
                              have c36b0 : decide (x51_3 < x44_2) = false := decide_eq_false c36
                              clear c36
                              by_cases c37 : x44_2 = x51_3
                              · rw [if_pos c37] at H
                                have c37b0 : (x44_2 == x51_3) = true := beq_iff_eq.mpr c37
                                have c37b1 : (x44_2 != x51_3) = false := bne_eq_false_iff_eq.mpr c37
                                clear c37
                                have H' := Aside0.mk H
                                clear H
                                have p166111 : 0 ≤ (x51_3 : Int) := of_decide_eq_true (by first | (with_reducible assumption) | assumption)
                                have q166111 : x51_3 < (t166104.length : Int) := of_decide_eq_true (by first | (with_reducible assumption) | assumption)
                                obtain ⟨ad166111, e166111, hx166111_0⟩ := Kd.at_int (Kd.R_reads' HO_49.out).2.2 x51_3 p166111 q166111
                                cases e166111
                                replace p166111 := eq_true p166111
                                replace q166111 := eq_true q166111
                                go_wp2
                                go_roundg k3
                                case measure => have := HJ4.out; have := HK2.out; have := HK3.out; omega
                                case rel => exact ⟨(x12_3), (wrap64 (x13_3 + (wrap64 ((rd t166107 x44_2) * (rd t166104 x51_3))))), (x14_3), (wrap64 (x51_3 + 1)), (by first | rfl | (simp; done) | (simp [*]; done)), (by first | rfl | (simp; done) | (simp [*]; done)), (by first | rfl | (simp; done) | (simp [*]; done)), (by first | rfl | (simp; done) | (simp [*]; done)), H', ⟨by have := HJ4.out; have := HK2.out; have := HK3.out; omega⟩, ⟨by (with_reducible repeat (first | apply Kd.R_alloc | apply Kd.R_drewN | apply Kd.R_drew)); exact HO_15.out⟩, ⟨by (with_reducible repeat (first | apply Kd.R_alloc | apply Kd.R_drewN | apply Kd.R_drew)); exact HO_42.out⟩, ⟨by (with_reducible repeat (first | apply Kd.R_alloc | apply Kd.R_drewN | apply Kd.R_drew)); exact HO_49.out⟩, ⟨by (with_reducible repeat (first | refine blk_drewN ?_ _ | refine blk_drew ?_ | refine blk_alloc ?_ _)); exact BK166101.out⟩, ⟨by repeat (first | (with_reducible first | exact HB.out | apply below_alloc | apply pw_below_drewN | apply below_drew1 | refine below_set ?_ GE166101.out) | exact HB.out)⟩⟩
                              · rw [if_neg c37] at H
                                have c37b0 : (x44_2 == x51_3) = false := beq_eq_false_iff_ne.mpr c37
                                have c37b1 : (x44_2 != x51_3) = true := bne_iff_ne.mpr c37
                                have H' := Aside0.mk H
                                clear H
                                have p166111 : 0 ≤ (x51_3 : Int) := of_decide_eq_true (by first | (with_reducible assumption) | assumption)
                                have q166111 : x51_3 < (t166104.length : Int) := of_decide_eq_true (by first | (with_reducible assumption) | assumption)
                                obtain ⟨ad166111, e166111, hx166111_0⟩ := Kd.at_int (Kd.R_reads' HO_49.out).2.2 x51_3 p166111 q166111
                                cases e166111
                                replace p166111 := eq_true p166111
                                replace q166111 := eq_true q166111
                                go_wp2
                                go_roundg k3
                                case measure => have := HJ4.out; have := HK2.out; have := HK3.out; omega
                                case rel => exact ⟨(x12_3), (x13_3), (wrap64 (x14_3 + (wrap64 ((rd t166107 x44_2) * (rd t166104 x51_3))))), (wrap64 (x51_3 + 1)), (by first | rfl | (simp; done) | (simp [*]; done)), (by first | rfl | (simp; done) | (simp [*]; done)), (by first | rfl | (simp; done) | (simp [*]; done)), (by first | rfl | (simp; done) | (simp [*]; done)), H', ⟨by have := HJ4.out; have := HK2.out; have := HK3.out; omega⟩, ⟨by (with_reducible repeat (first | apply Kd.R_alloc | apply Kd.R_drewN | apply Kd.R_drew)); exact HO_15.out⟩, ⟨by (with_reducible repeat (first | apply Kd.R_alloc | apply Kd.R_drewN | apply Kd.R_drew)); exact HO_42.out⟩, ⟨by (with_reducible repeat (first | apply Kd.R_alloc | apply Kd.R_drewN | apply Kd.R_drew)); exact HO_49.out⟩, ⟨by (with_reducible repeat (first | refine blk_drewN ?_ _ | refine blk_drew ?_ | refine blk_alloc ?_ _)); exact BK166101.out⟩, ⟨by repeat (first | (with_reducible first | exact HB.out | apply below_alloc | apply pw_below_drewN | apply below_drew1 | refine below_set ?_ GE166101.out) | exact HB.out)⟩⟩
                          · rw [if_neg c35] at H
                            exact absurd H (by simp)
                        · rw [if_neg c34] at H
                          exact absurd H (by simp)
                      · rw [if_neg c33] at H
                        have c33b0 : decide (x51_3 < (t166104.length : Int)) = false := decide_eq_false c33
                        clear c33
                        have H' := Aside0.mk H
                        clear H
                        go_wp2
                        go_roundg k3
                        case measure => have := HJ4.out; have := HK2.out; have := HK3.out; omega
                        case rel => exact ⟨(x12_3), (x13_3), (x14_3), (wrap64 (x44_2 + 1)), (by first | rfl | (simp; done) | (simp [*]; done)), (by first | rfl | (simp; done) | (simp [*]; done)), (by first | rfl | (simp; done) | (simp [*]; done)), (by first | rfl | (simp; done) | (simp [*]; done)), H', ⟨by have := HJ4.out; have := HK2.out; have := HK3.out; omega⟩, ⟨by (with_reducible repeat (first | apply Kd.R_alloc | apply Kd.R_drewN | apply Kd.R_drew)); exact HO_15.out⟩, ⟨by (with_reducible repeat (first | apply Kd.R_alloc | apply Kd.R_drewN | apply Kd.R_drew)); exact Kd.R_mono HO_42.out (fun _ hk => hk.1)⟩, ⟨by (with_reducible repeat (first | refine blk_drewN ?_ _ | refine blk_drew ?_ | refine blk_alloc ?_ _)); exact BK166101.out⟩, ⟨by repeat (first | (with_reducible first | exact HB.out | apply below_alloc | apply pw_below_drewN | apply below_drew1 | refine below_set ?_ GE166101.out) | exact HB.out)⟩⟩
                · rw [if_neg c31] at H
                  exact absurd H (by simp)
              · rw [if_neg c30] at H
                exact absurd H (by simp)
            · rw [if_neg c29] at H
              have c29b0 : decide (x44_2 < (t166107.length : Int)) = false := decide_eq_false c29
              clear c29
              simp only [Option.some.injEq, Prod.mk.injEq] at H
              obtain ⟨rfl, rfl, rfl, rfl⟩ := H
              go_wp2
              refine bodyPost_ret (results_list (rs := [.tmp 8, .tmp 9, .tmp 10, .tmp 11]) rfl (by simp) (.tmp (.tmp (.tmp (.tmp .nil))))) rfl ?_
              exact ⟨by first | rfl | (simp [errW_none, errW_some] <;> rfl) | (simp [*, errW_none, errW_some] <;> rfl), by repeat (first | (with_reducible first | exact HB.out | apply below_alloc | apply pw_below_drewN | apply below_drew1 | refine below_set ?_ GE166101.out) | exact HB.out)⟩

end Go.Proofs.Ytkobjjadojpjfaa.Pr
