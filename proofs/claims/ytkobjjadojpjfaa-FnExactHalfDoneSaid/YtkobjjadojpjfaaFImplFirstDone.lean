-- A text of the machine side, written by wip/gen.py of this repo out of the translation. Not trusted: Lean checks it.
import Derived.Test.YtkobjjadojpjfaaF0
import Derived.Test.YtkobjjadojpjfaaFGD
import Derived.Test.YtkobjjadojpjfaaFImplBoardNext
import Derived.Test.YtkobjjadojpjfaaHFv
import Derived.Test.YtkobjjadojpjfaaHareSquares
namespace Go.Proofs.Ytkobjjadojpjfaa.Pr
open Go.RowKit Go.Proofs.YtkobjjadojpjfaaW.PrintWords Go.Proofs.YtkobjjadojpjfaaW.PrintLast Go.Proofs.YtkobjjadojpjfaaW.PrintMore
attribute [local go_sem] max2_int min2_int max_two min_two max_three min_three max_four min_four   -- for this text's walks alone
set_option linter.unusedVariables false
set_option linter.unusedSimpArgs false

/-! ### impl_firstDone: function 151 -/
def impl_firstDone.l0 : Nat → Fv2 → List Int → Int → Int → Int → Int → Int → List (S27) → Option (Int × Bool)
  | 0, _, _, _, _, _, _, _, _ => none
  | k + 1, x2, x8, x9, x10, x302102000, x302102001, x302102002, x302102003 => if x10 ≤ 20 then (if 0 ≤ x302102000 then (if x302102000 < (x8.length : Int) then ((fv2_.f x2 (rd x8 x302102000) x9).bind fun t302110 => (if t302110 = true then (some (x10, true)) else (if x10 < 20 then ((impl_Board_next.f k x302102000 x302102001 x302102002 x302102003 x8).bind fun t302111 => (impl_firstDone.l0 k x2 t302111 (wrap64 (x9 * x302102001)) (wrap64 (x10 + 1)) x302102000 x302102001 x302102002 x302102003)) else (impl_firstDone.l0 k x2 x8 x9 (wrap64 (x10 + 1)) x302102000 x302102001 x302102002 x302102003)))) else (none)) else (none)) else (some (0, false))
def impl_firstDone.f (k : Nat) (a0_0 : Int) (a0_1 : Int) (a0_2 : Int) (l0_3 : List (S27)) (a1 : Int) (a2 : Fv2) : Option (Int × Bool) := (impl_areSquares.f k a0_0 a0_1 a0_2 l0_3 (([a1] : List Int))).bind fun t302105 => (if t302105 = true then ((impl_Board_startOf.f a0_0 a0_1 a0_2 l0_3 a1).bind fun t302106 => (impl_firstDone.l0 k a2 t302106 1 0 a0_0 a0_1 a0_2 l0_3)) else (some (0, false)))
theorem impl_firstDone.mono_l : ∀ k, (∀ y0 y1 y2 y3 y4 y5 y6 y7, LeO (impl_firstDone.l0 k y0 y1 y2 y3 y4 y5 y6 y7) (impl_firstDone.l0 (k + 1) y0 y1 y2 y3 y4 y5 y6 y7))
  | 0 => fun _ _ _ _ _ _ _ _ r h => by simp [impl_firstDone.l0] at h
  | k + 1 => by
    have ih0 := impl_firstDone.mono_l k
    · intro y0 y1 y2 y3 y4 y5 y6 y7
      unfold impl_firstDone.l0
      repeat' first
      | (with_reducible exact ih0 _ _ _ _ _ _ _ _)
      | (with_reducible exact impl_Board_next.mono _ _ _ _ _ _)
      | (with_reducible exact impl_areSquares.mono _ _ _ _ _ _)
      | (with_reducible exact LeO.refl _)
      | (with_reducible exact LeO.none _)
      | (with_reducible refine LeO.ite ?_ ?_)
      | (with_reducible refine LeO.bind ?_ (fun _ => ?_))
      | exact ih0 _ _ _ _ _ _ _ _
      | exact impl_Board_next.mono _ _ _ _ _ _
      | exact impl_areSquares.mono _ _ _ _ _ _
      | exact LeO.none _
      | refine LeO.ite ?_ ?_
      | refine LeO.bind ?_ (fun _ => ?_)
theorem impl_firstDone.mono : ∀ a0 a1 a2 a3 a4 a5 k, LeO (impl_firstDone.f k a0 a1 a2 a3 a4 a5) (impl_firstDone.f (k + 1) a0 a1 a2 a3 a4 a5) := by
  intro a0 a1 a2 a3 a4 a5 k
  have ih0 := impl_firstDone.mono_l k
  unfold impl_firstDone.f
  repeat' first
      | (with_reducible exact ih0 _ _ _ _ _ _ _ _)
      | (with_reducible exact impl_Board_next.mono _ _ _ _ _ _)
      | (with_reducible exact impl_areSquares.mono _ _ _ _ _ _)
      | (with_reducible exact LeO.refl _)
      | (with_reducible exact LeO.none _)
      | (with_reducible refine LeO.ite ?_ ?_)
      | (with_reducible refine LeO.bind ?_ (fun _ => ?_))
      | exact ih0 _ _ _ _ _ _ _ _
      | exact impl_Board_next.mono _ _ _ _ _ _
      | exact impl_areSquares.mono _ _ _ _ _ _
      | exact LeO.none _
      | refine LeO.ite ?_ ?_
      | refine LeO.bind ?_ (fun _ => ?_)
def impl_firstDone.T10 : Bool × List (List Nat × List Nat) := (true, [([], []), ([], []), ([0, 1], [0, 1]), ([], []), ([], []), ([4], [4]), ([3, 5], [3, 5]), ([2, 2, 0, 1, 2], [1, 2]), ([6, 7, 0, 1, 2, 3, 4, 5, 6, 7], [3, 6])])
def impl_firstDone.B10 : List Nat := [0, 0, 3, 0, 0, 16, 56, 7, 255]
theorem impl_firstDone.tab10 : rtab .any (opsOf Try.f151 10) = impl_firstDone.T10 := by kernel_rfl
theorem impl_firstDone.bits10 : waitsOk impl_firstDone.T10.2 impl_firstDone.B10 = true := by kernel_rfl
set_option maxHeartbeats 8000000 in
set_option maxRecDepth 100000 in
theorem impl_firstDone.calls (k : Nat) (a0_0 : Int) (a0_1 : Int) (a0_2 : Int) (A0_3 : Option Addr) (c0_3 : Nat) (l0_3 : List (S27)) (a1 : Int) (a2 : Fv2) (r1 : Int) (r2 : Bool) (w : World) (hp : Fv2.Ok a2 w) (hr0_3 : Kd.C k27 w A0_3 l0_3.length l0_3) (hc0_3 : l0_3.length ≤ c0_3) (h : impl_firstDone.f k a0_0 a0_1 a0_2 l0_3 a1 a2 = some (r1, r2)) :
    Calls Try.prog 151 #[.agg #[.int .i64 a0_0, .int .i64 a0_1, .int .i64 a0_2, .slice A0_3 l0_3.length c0_3], .int .i64 a1, Fv2.v a2] w fun e w' => e = .returned (.tuple #[.int .i64 r1, .bool r2]) ∧ Below w.heap.size w w' := by
  have HP := Aside0.mk hp
  clear hp
  have hu32 := Try.underlying32
  have HR0_3 := Aside0.mk hr0_3
  have HC0_3 := Aside0.mk hc0_3
  clear hr0_3 hc0_3
  have HB := Aside0.mk (Below.refl w.heap.size w)
  have H : ((impl_areSquares.f k a0_0 a0_1 a0_2 l0_3 (([a1] : List Int))).bind fun t302105 => (if t302105 = true then ((impl_Board_startOf.f a0_0 a0_1 a0_2 l0_3 a1).bind fun t302106 => (impl_firstDone.l0 k a2 t302106 1 0 a0_0 a0_1 a0_2 l0_3)) else (some (0, false)))) = some (r1, r2) := h
  clear h
  obtain ⟨y302102, hy302102⟩ : ∃ y_ : List Int, y_ = (([a1] : List Int)) := ⟨_, rfl⟩
  replace H : ((impl_areSquares.f k a0_0 a0_1 a0_2 l0_3 y302102).bind fun t302105 => (if t302105 = true then ((impl_Board_startOf.f a0_0 a0_1 a0_2 l0_3 a1).bind fun t302106 => (impl_firstDone.l0 k a2 t302106 1 0 a0_0 a0_1 a0_2 l0_3)) else (some (0, false)))) = some (r1, r2) := by first | (rw [hy302102]; with_reducible exact H) | (have H2_ := (Option.bind_some _ _).symm.trans H; rw [hy302102]; with_reducible exact H2_) | (have H2_ := (Option.bind_some _ _).symm.trans H; with_reducible exact H2_) | with_reducible exact H | (rw [hy302102]; exact H) | exact H
  have Ny302102 := Aside0.mk hy302102
  clear hy302102
  replace H := Option.bind_eq_some_iff.mp H
  obtain ⟨t302105, A40, H⟩ := H
  replace H : (if t302105 = true then ((impl_Board_startOf.f a0_0 a0_1 a0_2 l0_3 a1).bind fun t302106 => (impl_firstDone.l0 k a2 t302106 1 0 a0_0 a0_1 a0_2 l0_3)) else (some (0, false))) = some (r1, r2) := H
  have A4 := Aside0.mk A40
  clear A40
  by_cases c5 : t302105 = true
  · subst c5
    have H1 : ((impl_Board_startOf.f a0_0 a0_1 a0_2 l0_3 a1).bind fun t302106 => (impl_firstDone.l0 k a2 t302106 1 0 a0_0 a0_1 a0_2 l0_3)) = some (r1, r2) := by rw [if_pos rfl] at H; exact H
    clear H
    have H := H1
    clear H1
    replace H := Option.bind_eq_some_iff.mp H
    obtain ⟨t302106, A60, H⟩ := H
    replace H : (impl_firstDone.l0 k a2 t302106 1 0 a0_0 a0_1 a0_2 l0_3) = some (r1, r2) := H
    have A6 := Aside0.mk A60
    clear A60
    have H' := Aside0.mk H
    clear H
    go_enter Try.func151, Try.ntmps151
    go_wp2_with (first | ((with_reducible refine gate_dst (N := 3) rfl ?_); refine box_event ?hg (N := 3) ?hd (cs := #[.int .i64 a0_0, .int .i64 a0_1, .int .i64 a0_2, .slice A0_3 l0_3.length c0_3]) (t := 32) ?hr ?_; (case hd => rfl); (case hg => rfl); (case hr => first | (go_simp; done) | (go_simp; rfl)); intro gb302101 hg w7 hbox hb; have n0_ := Aside0.mk (below_step (by repeat (first | (with_reducible first | exact HB.out | apply below_alloc | apply pw_below_drewN | apply below_drew1) | exact HB.out)) hb); have n1_ := Aside0.mk (hbox); have n2_ := Aside0.mk ((by rw [hg]; exact (below_size (by repeat (first | (with_reducible first | exact HB.out | apply below_alloc | apply pw_below_drewN | apply below_drew1) | exact HB.out))) : w.heap.size ≤ gb302101)); have n3_ := Aside0.mk ((by rw [hg]; exact (below_size (by repeat (first | (with_reducible first | exact HB.out | apply below_alloc | apply pw_below_drewN | apply below_drew1) | exact HB.out))) : w.heap.size ≤ gb302101)); clear HB; have HB := n0_; have BK302101 := n1_; have GW302101 := n2_; have GE302101 := n3_; clear n0_ n1_ n2_ n3_; clear hb hbox hg; have hcz8_0 : w7.cell? ⟨gb302101, 0, none⟩ = some (.int .i64 a0_0) := (blk_cell BK302101.out 0).trans rfl; have hcz8_1 : w7.cell? ⟨gb302101, 1, none⟩ = some (.int .i64 a0_1) := (blk_cell BK302101.out 1).trans rfl; have hcz8_2 : w7.cell? ⟨gb302101, 2, none⟩ = some (.int .i64 a0_2) := (blk_cell BK302101.out 2).trans rfl; have hcz8_3 : w7.cell? ⟨gb302101, 3, none⟩ = some (.slice A0_3 l0_3.length c0_3) := (blk_cell BK302101.out 3).trans rfl; have hfz8_0 := blk_frozen BK302101.out 0; have hfz8_1 := blk_frozen BK302101.out 1; have hfz8_2 := blk_frozen BK302101.out 2; have hfz8_3 := blk_frozen BK302101.out 3) | ((with_reducible refine gate_dst (N := 13) rfl ?_); refine Kd.R_lit (Kd.int .i64) _ 3 ?hg (N := 13) ?hd (xs := ([a1] : List Int)) (inner := [.int .i64 a1]) (ok := fun _ => True) (okp := fun _ => True) ?hr ?hp (fun _ hk => hk) trivial (Below.refl _ _) (Nat.le_refl _) (by simp) ?_; (case hd => rfl); (case hg => rfl); (case hr => first | (go_simp; done) | (go_simp; rfl)); (case hp => exact (Reps.one (show Kd.M (Kd.int .i64) _ _ _ a1 [.int .i64 a1] from rfl) (Reps.none _ _))); intro v302103 w9 ho10 hb hg_ hnew_; clear hg_ hnew_; (first | rw [← Ny302102.out] at ho10 | (simp only [Int.reduceToNat] at ho10; rw [← Ny302102.out] at ho10)); have n0_ := Aside0.mk (Kd.R_lower ho10 (below_size (by repeat (first | (with_reducible first | exact HB.out | apply below_alloc | apply pw_below_drewN | apply below_drew1 | refine below_set ?_ GE302101.out) | exact HB.out)))); have n1_ := Aside0.mk (blk_below (g := gb302101) (o := .cells #[.int .i64 a0_0, .int .i64 a0_1, .int .i64 a0_2, .slice A0_3 l0_3.length c0_3] 32 (0, 0)) (by (with_reducible repeat (first | refine blk_drewN ?_ _ | refine blk_drew ?_ | refine blk_alloc ?_ _)); exact BK302101.out) hb); have n2_ := Aside0.mk (below_step (by repeat (first | (with_reducible first | exact HB.out | apply below_alloc | apply pw_below_drewN | apply below_drew1 | refine below_set ?_ GE302101.out) | exact HB.out)) hb); clear BK302101; clear HB; have HO302104 := n0_; have BK302101 := n1_; have HB := n2_; clear n0_ n1_ n2_; clear hb ho10; obtain ⟨Ao11, co11, eo11⟩ := Kd.R_slice HO302104.out; subst eo11) | ((with_reducible refine gate_callee (f := 134) rfl ?_); refine goesL_ (some 14) rfl rfl Try.func134 (by kernel_rfl) rfl #[.agg #[.int .i64 a0_0, .int .i64 a0_1, .int .i64 a0_2, .slice A0_3 l0_3.length c0_3], .slice Ao11 y302102.length co11] rfl (by (try simp only [List.map_toArray, List.map_cons, List.map_nil]); first | done | rfl | (simp only [List.length_drop, List.length_take]; rfl)) ?_; (with_reducible refine (impl_areSquares.calls k a0_0 a0_1 a0_2 _ _ l0_3 _ _ y302102 true _ ?side1 ?side2 ?side3 ?side4 A4.out).mono ?_); (case side1 => repeat (first | exact (Kd.C_below HR0_3.out HB.out) | (with_reducible refine Kd.C_alloc ?_ _) | (with_reducible refine Kd.C_drewN ?_ _) | (with_reducible refine Kd.C_drew ?_))); (case side2 => exact HC0_3.out); (case side3 => repeat (first | exact (Kd.R_reads' HO302104.out).2.2 | (with_reducible refine Kd.C_alloc ?_ _) | (with_reducible refine Kd.C_drewN ?_ _) | (with_reducible refine Kd.C_drew ?_))); (case side4 => exact (Kd.R_reads' HO302104.out).2.1); rintro e w12 ⟨rfl, hb⟩; refine ⟨_, rfl, ?_⟩; have n0_ := Aside0.mk (Kd.R_below (by (with_reducible repeat (first | apply Kd.R_alloc | apply Kd.R_drewN | apply Kd.R_drew)); exact HO302104.out) hb); have n1_ := Aside0.mk (blk_below (g := gb302101) (o := .cells #[.int .i64 a0_0, .int .i64 a0_1, .int .i64 a0_2, .slice A0_3 l0_3.length c0_3] 32 (0, 0)) (by (with_reducible repeat (first | refine blk_drewN ?_ _ | refine blk_drew ?_ | refine blk_alloc ?_ _)); exact BK302101.out) hb); have n2_ := Aside0.mk (below_step (by repeat (first | (with_reducible first | exact HB.out | apply below_alloc | apply pw_below_drewN | apply below_drew1 | refine below_set ?_ GE302101.out) | exact HB.out)) hb); clear HO302104; clear BK302101; clear HB; have HO302104 := n0_; have BK302101 := n1_; have HB := n2_; clear n0_ n1_ n2_; (try clear hb); (try clear hb2); (try clear hk); (try clear hi); have hcz13_0 : w12.cell? ⟨gb302101, 0, none⟩ = some (.int .i64 a0_0) := (blk_cell BK302101.out 0).trans rfl; have hcz13_1 : w12.cell? ⟨gb302101, 1, none⟩ = some (.int .i64 a0_1) := (blk_cell BK302101.out 1).trans rfl; have hcz13_2 : w12.cell? ⟨gb302101, 2, none⟩ = some (.int .i64 a0_2) := (blk_cell BK302101.out 2).trans rfl; have hcz13_3 : w12.cell? ⟨gb302101, 3, none⟩ = some (.slice A0_3 l0_3.length c0_3) := (blk_cell BK302101.out 3).trans rfl; have hfz13_0 := blk_frozen BK302101.out 0; have hfz13_1 := blk_frozen BK302101.out 1; have hfz13_2 := blk_frozen BK302101.out 2; have hfz13_3 := blk_frozen BK302101.out 3) | ((with_reducible refine gate_callee (f := 163) rfl ?_); refine goesL_ (some 18) rfl rfl Try.func163 (by kernel_rfl) rfl #[.agg #[.int .i64 a0_0, .int .i64 a0_1, .int .i64 a0_2, .slice A0_3 l0_3.length c0_3], .int .i64 a1] rfl (by (try simp only [List.map_toArray, List.map_cons, List.map_nil]); first | done | rfl | (simp only [List.length_drop, List.length_take]; rfl)) ?_; (with_reducible refine (impl_Board_startOf.calls a0_0 a0_1 a0_2 _ _ l0_3 a1 t302106 _ ?side1 ?side2 A6.out).mono ?_); (case side1 => repeat (first | exact (Kd.C_below HR0_3.out HB.out) | (with_reducible refine Kd.C_alloc ?_ _) | (with_reducible refine Kd.C_drewN ?_ _) | (with_reducible refine Kd.C_drew ?_))); (case side2 => exact HC0_3.out); rintro e w14 ⟨v302107, rfl, ho0, hb⟩; refine ⟨_, rfl, ?_⟩; have n0_ := Aside0.mk (Kd.R_elder' (by (with_reducible repeat (first | apply Kd.R_alloc | apply Kd.R_drewN | apply Kd.R_drew)); exact HO302104.out) (Kd.R_base ho0) hb); have n1_ := Aside0.mk (Kd.R_lower (Kd.R_new' ho0 (Kd.R_lt (by (with_reducible repeat (first | apply Kd.R_alloc | apply Kd.R_drewN | apply Kd.R_drew)); exact HO302104.out))) (below_size (by repeat (first | (with_reducible first | exact HB.out | apply below_alloc | apply pw_below_drewN | apply below_drew1 | refine below_set ?_ GE302101.out) | exact HB.out)))); have n2_ := Aside0.mk (blk_below (g := gb302101) (o := .cells #[.int .i64 a0_0, .int .i64 a0_1, .int .i64 a0_2, .slice A0_3 l0_3.length c0_3] 32 (0, 0)) (by (with_reducible repeat (first | refine blk_drewN ?_ _ | refine blk_drew ?_ | refine blk_alloc ?_ _)); exact BK302101.out) hb); have n3_ := Aside0.mk (below_step (by repeat (first | (with_reducible first | exact HB.out | apply below_alloc | apply pw_below_drewN | apply below_drew1 | refine below_set ?_ GE302101.out) | exact HB.out)) hb); clear HO302104; clear BK302101; clear HB; have HO302104 := n0_; have HO302108 := n1_; have BK302101 := n2_; have HB := n3_; clear n0_ n1_ n2_ n3_; (try clear hb); (try clear hb2); (try clear hk); (try clear hi); (try clear ho0)))
    go_loopg [8, 9, 10] k (fun kq v8 v9 v10 w' => ∃ (x8_1 : List Int) (x9_1 : Int) (x10_1 : Int), v9 = .int .i64 x9_1 ∧ v10 = .int .i64 x10_1 ∧ Aside0 (impl_firstDone.l0 kq a2 x8_1 x9_1 x10_1 a0_0 a0_1 a0_2 l0_3 = some (r1, r2)) ∧ Aside0 (kq ≤ k) ∧ Aside0 (Kd.R (Kd.int .i64) 3 w' w.heap.size (fun _ => True) v8 x8_1) ∧ Aside0 (w'.heap[gb302101]? = some (.cells #[.int .i64 a0_0, .int .i64 a0_1, .int .i64 a0_2, (.slice A0_3 l0_3.length c0_3)] 32 (0, 0))) ∧ Aside0 (Below w.heap.size w w'))
    case atStart => exact ⟨(t302106), (1), (0), (by first | rfl | (simp; done) | (simp [*]; done)), (by first | rfl | (simp; done) | (simp [*]; done)), H', ⟨Nat.le_refl _⟩, ⟨by (with_reducible repeat (first | apply Kd.R_alloc | apply Kd.R_drewN | apply Kd.R_drew)); exact Kd.R_mono HO302108.out (fun _ hk => trivial)⟩, ⟨by (with_reducible repeat (first | refine blk_drewN ?_ _ | refine blk_drew ?_ | refine blk_alloc ?_ _)); exact BK302101.out⟩, ⟨by repeat (first | (with_reducible first | exact HB.out | apply below_alloc | apply pw_below_drewN | apply below_drew1 | refine below_set ?_ GE302101.out) | exact HB.out)⟩⟩
    case round =>
      clear H'
      try clear c1
      try clear p2
      try clear c5
      try clear c13
      try clear hcz13_0
      try clear hcz13_1
      try clear hcz13_2
      try clear hcz13_3
      try clear hcz8_0
      try clear hcz8_1
      try clear hcz8_2
      try clear hcz8_3
      try clear hfz13_0
      try clear hfz13_1
      try clear hfz13_2
      try clear hfz13_3
      try clear hfz8_0
      try clear hfz8_1
      try clear hfz8_2
      try clear hfz8_3
      obtain ⟨x8_1, x9_1, x10_1, rfl, rfl, HA, HK1, HO_8, BK302101, HB⟩ := hrel
      cases gk with
      | zero => exact absurd HA.out (by simp [impl_firstDone.l0])
      | succ k1 =>
        have H := HA.out
        clear HA
        simp only [impl_firstDone.l0] at H
        by_cases c15 : x10_1 ≤ 20
        · rw [if_pos c15] at H
          have c15b0 : decide (x10_1 ≤ 20) = true := decide_eq_true c15
          clear c15
          by_cases c16 : 0 ≤ a0_0
          · rw [if_pos c16] at H
            have c16b0 : decide (0 ≤ a0_0) = true := decide_eq_true c16
            clear c16
            by_cases c17 : a0_0 < (x8_1.length : Int)
            · rw [if_pos c17] at H
              have c17b0 : decide (a0_0 < (x8_1.length : Int)) = true := decide_eq_true c17
              clear c17
              replace H := Option.bind_eq_some_iff.mp H
              obtain ⟨t302110, A180, H⟩ := H
              replace H : (if t302110 = true then (some (x10_1, true)) else (if x10_1 < 20 then ((impl_Board_next.f k1 a0_0 a0_1 a0_2 l0_3 x8_1).bind fun t302111 => (impl_firstDone.l0 k1 a2 t302111 (wrap64 (x9_1 * a0_1)) (wrap64 (x10_1 + 1)) a0_0 a0_1 a0_2 l0_3)) else (impl_firstDone.l0 k1 a2 x8_1 x9_1 (wrap64 (x10_1 + 1)) a0_0 a0_1 a0_2 l0_3))) = some (r1, r2) := H
              have A18 := Aside0.mk A180
              clear A180
              by_cases c19 : t302110 = true
              · subst c19
                have H1 : (some (x10_1, true)) = some (r1, r2) := by rw [if_pos rfl] at H; exact H
                clear H
                have H := H1
                clear H1
                simp only [Option.some.injEq, Prod.mk.injEq] at H
                obtain ⟨rfl, rfl⟩ := H
                have hcz20_0 : wr.cell? ⟨gb302101, 0, none⟩ = some (.int .i64 a0_0) := (blk_cell BK302101.out 0).trans rfl
                have hcz20_1 : wr.cell? ⟨gb302101, 1, none⟩ = some (.int .i64 a0_1) := (blk_cell BK302101.out 1).trans rfl
                have hcz20_2 : wr.cell? ⟨gb302101, 2, none⟩ = some (.int .i64 a0_2) := (blk_cell BK302101.out 2).trans rfl
                have hcz20_3 : wr.cell? ⟨gb302101, 3, none⟩ = some (.slice A0_3 l0_3.length c0_3) := (blk_cell BK302101.out 3).trans rfl
                have hfz20_0 := blk_frozen BK302101.out 0
                have hfz20_1 := blk_frozen BK302101.out 1
                have hfz20_2 := blk_frozen BK302101.out 2
                have hfz20_3 := blk_frozen BK302101.out 3
                obtain ⟨Ao21, co21, eo21⟩ := Kd.R_slice HO_8.out
                subst eo21
                have p302109 : 0 ≤ (a0_0 : Int) := of_decide_eq_true (by first | (with_reducible assumption) | assumption)
                have q302109 : a0_0 < (x8_1.length : Int) := of_decide_eq_true (by first | (with_reducible assumption) | assumption)
                obtain ⟨ad302109, e302109, hx302109_0⟩ := Kd.at_int (Kd.R_reads' HO_8.out).2.2 a0_0 p302109 q302109
                cases e302109
                replace p302109 := eq_true p302109
                replace q302109 := eq_true q302109
                go_wp2_with (first | ((with_reducible refine gate_dst (N := 30) rfl ?_); refine goesV_ (some 30) rfl rfl HP.out.eg #[.int .i64 (rd x8_1 a0_0), .int .i64 x9_1] rfl (by first | rfl | (go_simp; rfl)) (by (try simp only [List.map_toArray, List.map_cons, List.map_nil]); first | done | rfl | (simp only [List.length_drop, List.length_take]; rfl)) ?_; (with_reducible refine (HP.out.go _ (rd x8_1 a0_0) x9_1 true (by repeat (first | (with_reducible first | exact HB.out | apply below_alloc | apply pw_below_drewN | apply below_drew1 | refine below_set ?_ GE302101.out) | exact HB.out)) A18.out).mono ?_); rintro e w22 ⟨rfl, hb⟩; refine ⟨_, rfl, ?_⟩; have n0_ := Aside0.mk (Kd.R_below (by (with_reducible repeat (first | apply Kd.R_alloc | apply Kd.R_drewN | apply Kd.R_drew)); exact HO_8.out) hb); have n1_ := Aside0.mk (blk_below (g := gb302101) (o := .cells #[.int .i64 a0_0, .int .i64 a0_1, .int .i64 a0_2, .slice A0_3 l0_3.length c0_3] 32 (0, 0)) (by (with_reducible repeat (first | refine blk_drewN ?_ _ | refine blk_drew ?_ | refine blk_alloc ?_ _)); exact BK302101.out) hb); have n2_ := Aside0.mk (below_step (by repeat (first | (with_reducible first | exact HB.out | apply below_alloc | apply pw_below_drewN | apply below_drew1 | refine below_set ?_ GE302101.out) | exact HB.out)) hb); clear HO_8; clear BK302101; clear HB; have HO_8 := n0_; have BK302101 := n1_; have HB := n2_; clear n0_ n1_ n2_; (try clear hb); (try clear hb2); (try clear hk); (try clear hi)))
                go_ret2
                exact ⟨by first | rfl | (simp [errW_none, errW_some] <;> rfl) | (simp [*, errW_none, errW_some] <;> rfl), by repeat (first | (with_reducible first | exact HB.out | apply below_alloc | apply pw_below_drewN | apply below_drew1 | refine below_set ?_ GE302101.out) | exact HB.out)⟩
              · replace c19 := Bool.eq_false_iff.mpr c19
                subst c19
                have H1 : (if x10_1 < 20 then ((impl_Board_next.f k1 a0_0 a0_1 a0_2 l0_3 x8_1).bind fun t302111 => (impl_firstDone.l0 k1 a2 t302111 (wrap64 (x9_1 * a0_1)) (wrap64 (x10_1 + 1)) a0_0 a0_1 a0_2 l0_3)) else (impl_firstDone.l0 k1 a2 x8_1 x9_1 (wrap64 (x10_1 + 1)) a0_0 a0_1 a0_2 l0_3)) = some (r1, r2) := by rw [if_neg (show ¬ (false = true) by decide)] at H; exact H
                clear H
                have H := H1
                clear H1
                by_cases c23 : x10_1 < 20
                · rw [if_pos c23] at H
                  have c23b0 : decide (x10_1 < 20) = true := decide_eq_true c23
                  clear c23
                  replace H := Option.bind_eq_some_iff.mp H
                  obtain ⟨t302111, A240, H⟩ := H
                  replace H : (impl_firstDone.l0 k1 a2 t302111 (wrap64 (x9_1 * a0_1)) (wrap64 (x10_1 + 1)) a0_0 a0_1 a0_2 l0_3) = some (r1, r2) := H
                  have A24 := Aside0.mk A240
                  clear A240
                  have H' := Aside0.mk H
                  clear H
                  have hcz25_0 : wr.cell? ⟨gb302101, 0, none⟩ = some (.int .i64 a0_0) := (blk_cell BK302101.out 0).trans rfl
                  have hcz25_1 : wr.cell? ⟨gb302101, 1, none⟩ = some (.int .i64 a0_1) := (blk_cell BK302101.out 1).trans rfl
                  have hcz25_2 : wr.cell? ⟨gb302101, 2, none⟩ = some (.int .i64 a0_2) := (blk_cell BK302101.out 2).trans rfl
                  have hcz25_3 : wr.cell? ⟨gb302101, 3, none⟩ = some (.slice A0_3 l0_3.length c0_3) := (blk_cell BK302101.out 3).trans rfl
                  have hfz25_0 := blk_frozen BK302101.out 0
                  have hfz25_1 := blk_frozen BK302101.out 1
                  have hfz25_2 := blk_frozen BK302101.out 2
                  have hfz25_3 := blk_frozen BK302101.out 3
                  obtain ⟨Ao26, co26, eo26⟩ := Kd.R_slice HO_8.out
                  subst eo26
                  have p302109 : 0 ≤ (a0_0 : Int) := of_decide_eq_true (by first | (with_reducible assumption) | assumption)
                  have q302109 : a0_0 < (x8_1.length : Int) := of_decide_eq_true (by first | (with_reducible assumption) | assumption)
                  obtain ⟨ad302109, e302109, hx302109_0⟩ := Kd.at_int (Kd.R_reads' HO_8.out).2.2 a0_0 p302109 q302109
                  cases e302109
                  replace p302109 := eq_true p302109
                  replace q302109 := eq_true q302109
                  try go_wp2_with (first | ((with_reducible refine gate_dst (N := 30) rfl ?_); refine goesV_ (some 30) rfl rfl HP.out.eg #[.int .i64 (rd x8_1 a0_0), .int .i64 x9_1] rfl (by first | rfl | (go_simp; rfl)) (by (try simp only [List.map_toArray, List.map_cons, List.map_nil]); first | done | rfl | (simp only [List.length_drop, List.length_take]; rfl)) ?_; (with_reducible refine (HP.out.go _ (rd x8_1 a0_0) x9_1 false (by repeat (first | (with_reducible first | exact HB.out | apply below_alloc | apply pw_below_drewN | apply below_drew1 | refine below_set ?_ GE302101.out) | exact HB.out)) A18.out).mono ?_); rintro e w27 ⟨rfl, hb⟩; refine ⟨_, rfl, ?_⟩; have n0_ := Aside0.mk (Kd.R_below (by (with_reducible repeat (first | apply Kd.R_alloc | apply Kd.R_drewN | apply Kd.R_drew)); exact HO_8.out) hb); have n1_ := Aside0.mk (blk_below (g := gb302101) (o := .cells #[.int .i64 a0_0, .int .i64 a0_1, .int .i64 a0_2, .slice A0_3 l0_3.length c0_3] 32 (0, 0)) (by (with_reducible repeat (first | refine blk_drewN ?_ _ | refine blk_drew ?_ | refine blk_alloc ?_ _)); exact BK302101.out) hb); have n2_ := Aside0.mk (below_step (by repeat (first | (with_reducible first | exact HB.out | apply below_alloc | apply pw_below_drewN | apply below_drew1 | refine below_set ?_ GE302101.out) | exact HB.out)) hb); clear HO_8; clear BK302101; clear HB; have HO_8 := n0_; have BK302101 := n1_; have HB := n2_; clear n0_ n1_ n2_; (try clear hb); (try clear hb2); (try clear hk); (try clear hi)))
                  have n0_ := Aside0.mk (Kd.R_drew HO_8.out)
                  have n1_ := Aside0.mk (blk_drew BK302101.out)
                  have n2_ := Aside0.mk (below_drew1 HB.out)
                  clear HO_8
                  clear BK302101
                  clear HB
                  have HO_8 := n0_
                  have BK302101 := n1_
                  have HB := n2_
                  clear n0_ n1_ n2_
                  refine start_ (n := 9) (S := fun w' => w'.cell? ⟨gb302101, 0, none⟩ = some (.int .i64 a0_0) ∧ w'.cell? ⟨gb302101, 1, none⟩ = some (.int .i64 a0_1) ∧ w'.cell? ⟨gb302101, 2, none⟩ = some (.int .i64 a0_2) ∧ w'.cell? ⟨gb302101, 3, none⟩ = some (.slice A0_3 l0_3.length c0_3)) (ds := []) #[false, false, false, false, false, false, false, false, false] (by kernel_rfl) rfl rfl ⟨(blk_cell BK302101.out 0).trans rfl, (blk_cell BK302101.out 1).trans rfl, (blk_cell BK302101.out 2).trans rfl, (blk_cell BK302101.out 3).trans rfl⟩ (fun hHeld => ?_); refine with_tabW impl_firstDone.tab10 impl_firstDone.bits10 (fun HT_ HW_ => ?_)
                  generalize w27.drew = w28 at HO_8 BK302101 HB hHeld ⊢
                  refine pure_ (i := 1) (N := some 35) (v := ?_) (a' := ?_) #[false, true, false, false, false, false, false, false, false] rfl rfl (any_of HT_.out (by kernel_rfl)) (fun _ _ _ h => h) (Or.inl ⟨by rfl, ?_⟩) ?_ ?_
                  rotate_left
                  · intro w'
                    go_simp
                    with_reducible rfl
                  rotate_left
                  · simp only [Act.put, List.setIfInBounds_toArray, List.set_cons_zero, List.set_cons_succ, i64_w, i32_w]
                    rfl
                  refine pure_ (i := 3) (N := some 37) (v := ?_) (a' := ?_) #[false, true, false, true, false, false, false, false, false] rfl rfl (any_of HT_.out (by kernel_rfl)) (fun _ _ _ h => h) (Or.inl ⟨by rfl, ?_⟩) ?_ ?_
                  rotate_left
                  · intro w'
                    go_simp
                    with_reducible rfl
                  rotate_left
                  · simp only [Act.put, List.setIfInBounds_toArray, List.set_cons_zero, List.set_cons_succ, i64_w, i32_w]
                    rfl
                  refine pure_ (i := 4) (N := some 38) (v := ?_) (a' := ?_) #[false, true, false, true, true, false, false, false, false] rfl rfl (any_of HT_.out (by kernel_rfl)) (fun _ _ _ h => h) (Or.inl ⟨by rfl, ?_⟩) ?_ ?_
                  rotate_left
                  · intro w'
                    go_simp
                    with_reducible rfl
                  rotate_left
                  · simp only [Act.put, List.setIfInBounds_toArray, List.set_cons_zero, List.set_cons_succ, i64_w, i32_w]
                    rfl
                  refine take_ (i := 0) (N := some 34) (v := ?_) (a' := ?_) #[true, true, false, true, true, false, false, false, false] rfl rfl (take_ofW HT_.out HW_.out (by kernel_rfl)) (fun _ _ _ h => h) (Or.inl ⟨by rfl, ?_⟩) hHeld ?_ ?_
                  rotate_left
                  · rintro w' ⟨s0, s1, s2, s3⟩
                    go_simp
                    with_reducible rfl
                  rotate_left
                  · simp only [Act.put, List.setIfInBounds_toArray, List.set_cons_zero, List.set_cons_succ, i64_w, i32_w]
                    rfl
                  refine take_ (i := 5) (N := some 39) (v := ?_) (a' := ?_) #[true, true, false, true, true, true, false, false, false] rfl rfl (take_ofW HT_.out HW_.out (by kernel_rfl)) (fun _ _ _ h => h) (Or.inl ⟨by rfl, ?_⟩) hHeld ?_ ?_
                  rotate_left
                  · rintro w' ⟨s0, s1, s2, s3⟩
                    go_simp
                    with_reducible rfl
                  rotate_left
                  · simp only [Act.put, List.setIfInBounds_toArray, List.set_cons_zero, List.set_cons_succ, i64_w, i32_w]
                    rfl
                  refine pure_ (i := 6) (N := some 40) (v := ?_) (a' := ?_) #[true, true, false, true, true, true, true, false, false] rfl rfl (any_of HT_.out (by kernel_rfl)) (fun _ _ _ h => h) (Or.inl ⟨by rfl, ?_⟩) ?_ ?_
                  rotate_left
                  · intro w'
                    go_simp
                    with_reducible rfl
                  rotate_left
                  · simp only [Act.put, List.setIfInBounds_toArray, List.set_cons_zero, List.set_cons_succ, i64_w, i32_w]
                    rfl
                  refine one_ (i := 2) (N := some 36) #[true, true, true, true, true, true, true, false, false] rfl rfl (one_of HT_.out (by kernel_rfl)) (by decide) (fun K hK => ?_)
                  refine goes_ Try.func164 (by kernel_rfl) rfl #[.agg #[.int .i64 a0_0, .int .i64 a0_1, .int .i64 a0_2, .slice A0_3 l0_3.length c0_3], .slice (some ad302109) x8_1.length co26] (by rfl) rfl rfl (by (try simp only [List.map_toArray, List.map_cons, List.map_nil]); first | done | rfl | (simp only [List.length_drop, List.length_take]; rfl)) ?_
                  with_reducible refine (impl_Board_next.calls k1 a0_0 a0_1 a0_2 _ _ l0_3 _ _ x8_1 t302111 _ ?side1 ?side2 ?side3 ?side4 A24.out).mono ?_
                  (case side1 => repeat (first | exact (Kd.C_below HR0_3.out HB.out) | (with_reducible refine Kd.C_alloc ?_ _) | (with_reducible refine Kd.C_drewN ?_ _) | (with_reducible refine Kd.C_drew ?_)))
                  (case side2 => exact HC0_3.out)
                  (case side3 => repeat (first | exact (Kd.R_reads' HO_8.out).2.2 | (with_reducible refine Kd.C_alloc ?_ _) | (with_reducible refine Kd.C_drewN ?_ _) | (with_reducible refine Kd.C_drew ?_)))
                  (case side4 => exact (Kd.R_reads' HO_8.out).2.1)
                  rintro e w29 ⟨v302112, rfl, ho0, hb⟩
                  refine ⟨_, rfl, ?_⟩
                  have n0_ := Aside0.mk (Kd.R_elder' (by (with_reducible repeat (first | apply Kd.R_alloc | apply Kd.R_drewN | apply Kd.R_drew)); exact HO_8.out) (Kd.R_base ho0) hb)
                  have n1_ := Aside0.mk (Kd.R_lower (Kd.R_new' ho0 (Kd.R_lt (by (with_reducible repeat (first | apply Kd.R_alloc | apply Kd.R_drewN | apply Kd.R_drew)); exact HO_8.out))) (below_size (by repeat (first | (with_reducible first | exact HB.out | apply below_alloc | apply pw_below_drewN | apply below_drew1 | refine below_set ?_ GE302101.out) | exact HB.out))))
                  have n2_ := Aside0.mk (blk_below (g := gb302101) (o := .cells #[.int .i64 a0_0, .int .i64 a0_1, .int .i64 a0_2, .slice A0_3 l0_3.length c0_3] 32 (0, 0)) (by (with_reducible repeat (first | refine blk_drewN ?_ _ | refine blk_drew ?_ | refine blk_alloc ?_ _)); exact BK302101.out) hb)
                  have n3_ := Aside0.mk (below_step (by repeat (first | (with_reducible first | exact HB.out | apply below_alloc | apply pw_below_drewN | apply below_drew1 | refine below_set ?_ GE302101.out) | exact HB.out)) hb)
                  clear HO_8
                  clear BK302101
                  clear HB
                  have HO_8 := n0_
                  have HO302113 := n1_
                  have BK302101 := n2_
                  have HB := n3_
                  clear n0_ n1_ n2_ n3_
                  (try clear hb)
                  (try clear hb2)
                  (try clear hk)
                  (try clear hi)
                  (try clear ho0)
                  refine hK.out _ _ ⟨(blk_cell BK302101.out 0).trans rfl, (blk_cell BK302101.out 1).trans rfl, (blk_cell BK302101.out 2).trans rfl, (blk_cell BK302101.out 3).trans rfl⟩ (fun hHeld => ?_)
                  clear hK K
                  refine norm_ (a' := ?_) ?_ ?_
                  rotate_left
                  · show Act.put _ (some 36) _ = _
                    simp only [Act.put, List.setIfInBounds_toArray, List.set_cons_zero, List.set_cons_succ, i64_w, i32_w]
                    rfl
                  refine pure_ (i := 7) (N := some 8) (v := ?_) (a' := ?_) #[true, true, true, true, true, true, true, true, false] rfl rfl (any_of HT_.out (by kernel_rfl)) (fun _ _ _ h => h) (Or.inl ⟨by rfl, ?_⟩) ?_ ?_
                  rotate_left
                  · intro w'
                    go_simp
                    with_reducible rfl
                  rotate_left
                  · simp only [Act.put, List.setIfInBounds_toArray, List.set_cons_zero, List.set_cons_succ, i64_w, i32_w]
                    rfl
                  refine pure_ (i := 8) (N := some 9) (v := ?_) (a' := ?_) #[true, true, true, true, true, true, true, true, true] rfl rfl (any_of HT_.out (by kernel_rfl)) (fun _ _ _ h => h) (Or.inl ⟨by rfl, ?_⟩) ?_ ?_
                  rotate_left
                  · intro w'
                    go_simp
                    with_reducible rfl
                  rotate_left
                  · simp only [Act.put, List.setIfInBounds_toArray, List.set_cons_zero, List.set_cons_succ, i64_w, i32_w]
                    rfl
                  refine done_ (done_of HT_.out (by kernel_rfl)) ?_
                  try go_wp2
                  go_roundg k1
                  case measure => have := HK1.out; omega
                  case rel => exact ⟨(t302111), (wrap64 (x9_1 * a0_1)), (wrap64 (x10_1 + 1)), (by first | rfl | (simp; done) | (simp [*]; done)), (by first | rfl | (simp; done) | (simp [*]; done)), H', ⟨by have := HK1.out; omega⟩, ⟨by (with_reducible repeat (first | apply Kd.R_alloc | apply Kd.R_drewN | apply Kd.R_drew)); exact Kd.R_mono HO302113.out (fun _ hk => trivial)⟩, ⟨by (with_reducible repeat (first | refine blk_drewN ?_ _ | refine blk_drew ?_ | refine blk_alloc ?_ _)); exact BK302101.out⟩, ⟨by repeat (first | (with_reducible first | exact HB.out | apply below_alloc | apply pw_below_drewN | apply below_drew1 | refine below_set ?_ GE302101.out) | exact HB.out)⟩⟩
                · rw [if_neg c23] at H
                  have c23b0 : decide (x10_1 < 20) = false := decide_eq_false c23
                  clear c23
                  have H' := Aside0.mk H
                  clear H
                  have hcz30_0 : wr.cell? ⟨gb302101, 0, none⟩ = some (.int .i64 a0_0) := (blk_cell BK302101.out 0).trans rfl
                  have hcz30_1 : wr.cell? ⟨gb302101, 1, none⟩ = some (.int .i64 a0_1) := (blk_cell BK302101.out 1).trans rfl
                  have hcz30_2 : wr.cell? ⟨gb302101, 2, none⟩ = some (.int .i64 a0_2) := (blk_cell BK302101.out 2).trans rfl
                  have hcz30_3 : wr.cell? ⟨gb302101, 3, none⟩ = some (.slice A0_3 l0_3.length c0_3) := (blk_cell BK302101.out 3).trans rfl
                  have hfz30_0 := blk_frozen BK302101.out 0
                  have hfz30_1 := blk_frozen BK302101.out 1
                  have hfz30_2 := blk_frozen BK302101.out 2
                  have hfz30_3 := blk_frozen BK302101.out 3
                  obtain ⟨Ao31, co31, eo31⟩ := Kd.R_slice HO_8.out
                  subst eo31
                  have p302109 : 0 ≤ (a0_0 : Int) := of_decide_eq_true (by first | (with_reducible assumption) | assumption)
                  have q302109 : a0_0 < (x8_1.length : Int) := of_decide_eq_true (by first | (with_reducible assumption) | assumption)
                  obtain ⟨ad302109, e302109, hx302109_0⟩ := Kd.at_int (Kd.R_reads' HO_8.out).2.2 a0_0 p302109 q302109
                  cases e302109
                  replace p302109 := eq_true p302109
                  replace q302109 := eq_true q302109
                  go_wp2_with (first | ((with_reducible refine gate_dst (N := 30) rfl ?_); refine goesV_ (some 30) rfl rfl HP.out.eg #[.int .i64 (rd x8_1 a0_0), .int .i64 x9_1] rfl (by first | rfl | (go_simp; rfl)) (by (try simp only [List.map_toArray, List.map_cons, List.map_nil]); first | done | rfl | (simp only [List.length_drop, List.length_take]; rfl)) ?_; (with_reducible refine (HP.out.go _ (rd x8_1 a0_0) x9_1 false (by repeat (first | (with_reducible first | exact HB.out | apply below_alloc | apply pw_below_drewN | apply below_drew1 | refine below_set ?_ GE302101.out) | exact HB.out)) A18.out).mono ?_); rintro e w32 ⟨rfl, hb⟩; refine ⟨_, rfl, ?_⟩; have n0_ := Aside0.mk (Kd.R_below (by (with_reducible repeat (first | apply Kd.R_alloc | apply Kd.R_drewN | apply Kd.R_drew)); exact HO_8.out) hb); have n1_ := Aside0.mk (blk_below (g := gb302101) (o := .cells #[.int .i64 a0_0, .int .i64 a0_1, .int .i64 a0_2, .slice A0_3 l0_3.length c0_3] 32 (0, 0)) (by (with_reducible repeat (first | refine blk_drewN ?_ _ | refine blk_drew ?_ | refine blk_alloc ?_ _)); exact BK302101.out) hb); have n2_ := Aside0.mk (below_step (by repeat (first | (with_reducible first | exact HB.out | apply below_alloc | apply pw_below_drewN | apply below_drew1 | refine below_set ?_ GE302101.out) | exact HB.out)) hb); clear HO_8; clear BK302101; clear HB; have HO_8 := n0_; have BK302101 := n1_; have HB := n2_; clear n0_ n1_ n2_; (try clear hb); (try clear hb2); (try clear hk); (try clear hi)))
                  go_roundg k1
                  case measure => have := HK1.out; omega
                  case rel => exact ⟨(x8_1), (x9_1), (wrap64 (x10_1 + 1)), (by first | rfl | (simp; done) | (simp [*]; done)), (by first | rfl | (simp; done) | (simp [*]; done)), H', ⟨by have := HK1.out; omega⟩, ⟨by (with_reducible repeat (first | apply Kd.R_alloc | apply Kd.R_drewN | apply Kd.R_drew)); exact HO_8.out⟩, ⟨by (with_reducible repeat (first | refine blk_drewN ?_ _ | refine blk_drew ?_ | refine blk_alloc ?_ _)); exact BK302101.out⟩, ⟨by repeat (first | (with_reducible first | exact HB.out | apply below_alloc | apply pw_below_drewN | apply below_drew1 | refine below_set ?_ GE302101.out) | exact HB.out)⟩⟩
            · rw [if_neg c17] at H
              exact absurd H (by simp)
          · rw [if_neg c16] at H
            exact absurd H (by simp)
        · rw [if_neg c15] at H
          have c15b0 : decide (x10_1 ≤ 20) = false := decide_eq_false c15
          clear c15
          simp only [Option.some.injEq, Prod.mk.injEq] at H
          obtain ⟨rfl, rfl⟩ := H
          go_wp2
          go_ret2
          exact ⟨by first | rfl | (simp [errW_none, errW_some] <;> rfl) | (simp [*, errW_none, errW_some] <;> rfl), by repeat (first | (with_reducible first | exact HB.out | apply below_alloc | apply pw_below_drewN | apply below_drew1 | refine below_set ?_ GE302101.out) | exact HB.out)⟩
  · replace c5 := Bool.eq_false_iff.mpr c5
    subst c5
    have H1 : (some (0, false)) = some (r1, r2) := by rw [if_neg (show ¬ (false = true) by decide)] at H; exact H
    clear H
    have H := H1
    clear H1
    simp only [Option.some.injEq, Prod.mk.injEq] at H
    obtain ⟨rfl, rfl⟩ := H
    go_enter Try.func151, Try.ntmps151
    go_wp2_with (first | ((with_reducible refine gate_dst (N := 3) rfl ?_); refine box_event ?hg (N := 3) ?hd (cs := #[.int .i64 a0_0, .int .i64 a0_1, .int .i64 a0_2, .slice A0_3 l0_3.length c0_3]) (t := 32) ?hr ?_; (case hd => rfl); (case hg => rfl); (case hr => first | (go_simp; done) | (go_simp; rfl)); intro gb302101 hg w33 hbox hb; have n0_ := Aside0.mk (below_step (by repeat (first | (with_reducible first | exact HB.out | apply below_alloc | apply pw_below_drewN | apply below_drew1) | exact HB.out)) hb); have n1_ := Aside0.mk (hbox); have n2_ := Aside0.mk ((by rw [hg]; exact (below_size (by repeat (first | (with_reducible first | exact HB.out | apply below_alloc | apply pw_below_drewN | apply below_drew1) | exact HB.out))) : w.heap.size ≤ gb302101)); have n3_ := Aside0.mk ((by rw [hg]; exact (below_size (by repeat (first | (with_reducible first | exact HB.out | apply below_alloc | apply pw_below_drewN | apply below_drew1) | exact HB.out))) : w.heap.size ≤ gb302101)); clear HB; have HB := n0_; have BK302101 := n1_; have GW302101 := n2_; have GE302101 := n3_; clear n0_ n1_ n2_ n3_; clear hb hbox hg; have hcz34_0 : w33.cell? ⟨gb302101, 0, none⟩ = some (.int .i64 a0_0) := (blk_cell BK302101.out 0).trans rfl; have hcz34_1 : w33.cell? ⟨gb302101, 1, none⟩ = some (.int .i64 a0_1) := (blk_cell BK302101.out 1).trans rfl; have hcz34_2 : w33.cell? ⟨gb302101, 2, none⟩ = some (.int .i64 a0_2) := (blk_cell BK302101.out 2).trans rfl; have hcz34_3 : w33.cell? ⟨gb302101, 3, none⟩ = some (.slice A0_3 l0_3.length c0_3) := (blk_cell BK302101.out 3).trans rfl; have hfz34_0 := blk_frozen BK302101.out 0; have hfz34_1 := blk_frozen BK302101.out 1; have hfz34_2 := blk_frozen BK302101.out 2; have hfz34_3 := blk_frozen BK302101.out 3) | ((with_reducible refine gate_dst (N := 13) rfl ?_); refine Kd.R_lit (Kd.int .i64) _ 3 ?hg (N := 13) ?hd (xs := ([a1] : List Int)) (inner := [.int .i64 a1]) (ok := fun _ => True) (okp := fun _ => True) ?hr ?hp (fun _ hk => hk) trivial (Below.refl _ _) (Nat.le_refl _) (by simp) ?_; (case hd => rfl); (case hg => rfl); (case hr => first | (go_simp; done) | (go_simp; rfl)); (case hp => exact (Reps.one (show Kd.M (Kd.int .i64) _ _ _ a1 [.int .i64 a1] from rfl) (Reps.none _ _))); intro v302103 w35 ho36 hb hg_ hnew_; clear hg_ hnew_; (first | rw [← Ny302102.out] at ho36 | (simp only [Int.reduceToNat] at ho36; rw [← Ny302102.out] at ho36)); have n0_ := Aside0.mk (Kd.R_lower ho36 (below_size (by repeat (first | (with_reducible first | exact HB.out | apply below_alloc | apply pw_below_drewN | apply below_drew1 | refine below_set ?_ GE302101.out) | exact HB.out)))); have n1_ := Aside0.mk (blk_below (g := gb302101) (o := .cells #[.int .i64 a0_0, .int .i64 a0_1, .int .i64 a0_2, .slice A0_3 l0_3.length c0_3] 32 (0, 0)) (by (with_reducible repeat (first | refine blk_drewN ?_ _ | refine blk_drew ?_ | refine blk_alloc ?_ _)); exact BK302101.out) hb); have n2_ := Aside0.mk (below_step (by repeat (first | (with_reducible first | exact HB.out | apply below_alloc | apply pw_below_drewN | apply below_drew1 | refine below_set ?_ GE302101.out) | exact HB.out)) hb); clear BK302101; clear HB; have HO302104 := n0_; have BK302101 := n1_; have HB := n2_; clear n0_ n1_ n2_; clear hb ho36; obtain ⟨Ao37, co37, eo37⟩ := Kd.R_slice HO302104.out; subst eo37) | ((with_reducible refine gate_callee (f := 134) rfl ?_); refine goesL_ (some 14) rfl rfl Try.func134 (by kernel_rfl) rfl #[.agg #[.int .i64 a0_0, .int .i64 a0_1, .int .i64 a0_2, .slice A0_3 l0_3.length c0_3], .slice Ao37 y302102.length co37] rfl (by (try simp only [List.map_toArray, List.map_cons, List.map_nil]); first | done | rfl | (simp only [List.length_drop, List.length_take]; rfl)) ?_; (with_reducible refine (impl_areSquares.calls k a0_0 a0_1 a0_2 _ _ l0_3 _ _ y302102 false _ ?side1 ?side2 ?side3 ?side4 A4.out).mono ?_); (case side1 => repeat (first | exact (Kd.C_below HR0_3.out HB.out) | (with_reducible refine Kd.C_alloc ?_ _) | (with_reducible refine Kd.C_drewN ?_ _) | (with_reducible refine Kd.C_drew ?_))); (case side2 => exact HC0_3.out); (case side3 => repeat (first | exact (Kd.R_reads' HO302104.out).2.2 | (with_reducible refine Kd.C_alloc ?_ _) | (with_reducible refine Kd.C_drewN ?_ _) | (with_reducible refine Kd.C_drew ?_))); (case side4 => exact (Kd.R_reads' HO302104.out).2.1); rintro e w38 ⟨rfl, hb⟩; refine ⟨_, rfl, ?_⟩; have n0_ := Aside0.mk (Kd.R_below (by (with_reducible repeat (first | apply Kd.R_alloc | apply Kd.R_drewN | apply Kd.R_drew)); exact HO302104.out) hb); have n1_ := Aside0.mk (blk_below (g := gb302101) (o := .cells #[.int .i64 a0_0, .int .i64 a0_1, .int .i64 a0_2, .slice A0_3 l0_3.length c0_3] 32 (0, 0)) (by (with_reducible repeat (first | refine blk_drewN ?_ _ | refine blk_drew ?_ | refine blk_alloc ?_ _)); exact BK302101.out) hb); have n2_ := Aside0.mk (below_step (by repeat (first | (with_reducible first | exact HB.out | apply below_alloc | apply pw_below_drewN | apply below_drew1 | refine below_set ?_ GE302101.out) | exact HB.out)) hb); clear HO302104; clear BK302101; clear HB; have HO302104 := n0_; have BK302101 := n1_; have HB := n2_; clear n0_ n1_ n2_; (try clear hb); (try clear hb2); (try clear hk); (try clear hi)))
    go_ret2
    exact ⟨by first | rfl | (simp [errW_none, errW_some] <;> rfl) | (simp [*, errW_none, errW_some] <;> rfl), by repeat (first | (with_reducible first | exact HB.out | apply below_alloc | apply pw_below_drewN | apply below_drew1 | refine below_set ?_ GE302101.out) | exact HB.out)⟩

end Go.Proofs.Ytkobjjadojpjfaa.Pr
