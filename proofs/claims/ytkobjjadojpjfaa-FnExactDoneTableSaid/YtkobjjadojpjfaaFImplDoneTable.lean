-- A text of the machine side, written by wip/gen.py of this repo out of the translation. Not trusted: Lean checks it.
import Derived.Test.YtkobjjadojpjfaaF0
import Derived.Test.YtkobjjadojpjfaaFGD
import Derived.Test.YtkobjjadojpjfaaFImplBoardNext
namespace Go.Proofs.Ytkobjjadojpjfaa.Pr
open Go.RowKit Go.Proofs.YtkobjjadojpjfaaW.PrintWords Go.Proofs.YtkobjjadojpjfaaW.PrintLast Go.Proofs.YtkobjjadojpjfaaW.PrintMore
attribute [local go_sem] max2_int min2_int max_two min_two max_three min_three max_four min_four   -- for this text's walks alone
set_option linter.unusedVariables false
set_option linter.unusedSimpArgs false

/-! ### impl_DoneTable: function 90 -/
def impl_DoneTable.l0 : Nat → Int → List Int → List Int → Int → Int → Int → Int → Int → List (S27) → Option (List Int × Bool)
  | 0, _, _, _, _, _, _, _, _, _ => none
  | k + 1, x2, x8, x9, x22, x23, x180102000, x180102001, x180102002, x180102003 => if x23 < x22 then (if 0 ≤ x180102000 then (if x180102000 < (x8.length : Int) then (if x9.length < 17592186044416 then ((some (x9 ++ [rd x8 x180102000] : List Int)).bind fun y180113 => (if x23 < x2 then ((impl_Board_next.f k x180102000 x180102001 x180102002 x180102003 x8).bind fun t180116 => (impl_DoneTable.l0 k x2 t180116 y180113 x22 (wrap64 (x23 + 1)) x180102000 x180102001 x180102002 x180102003)) else (impl_DoneTable.l0 k x2 x8 y180113 x22 (wrap64 (x23 + 1)) x180102000 x180102001 x180102002 x180102003))) else (none)) else (none)) else (none)) else (some (x9, true))
def impl_DoneTable.f (k : Nat) (a0_0 : Int) (a0_1 : Int) (a0_2 : Int) (l0_3 : List (S27)) (a1 : Int) (a2 : Int) : Option (List Int × Bool) := (impl_isThrown.f k a0_0 a0_1 a0_2 l0_3 a2 20 (([a1] : List Int))).bind fun t180105 => (if t180105 = true then ((impl_Board_startOf.f a0_0 a0_1 a0_2 l0_3 a1).bind fun t180106 => (impl_DoneTable.l0 k a2 t180106 (([] : List Int)) (wrap64 (a2 + 1)) 0 a0_0 a0_1 a0_2 l0_3)) else (some (([] : List Int), false)))
theorem impl_DoneTable.mono_l : ∀ k, (∀ y0 y1 y2 y3 y4 y5 y6 y7 y8, LeO (impl_DoneTable.l0 k y0 y1 y2 y3 y4 y5 y6 y7 y8) (impl_DoneTable.l0 (k + 1) y0 y1 y2 y3 y4 y5 y6 y7 y8))
  | 0 => fun _ _ _ _ _ _ _ _ _ r h => by simp [impl_DoneTable.l0] at h
  | k + 1 => by
    have ih0 := impl_DoneTable.mono_l k
    · intro y0 y1 y2 y3 y4 y5 y6 y7 y8
      unfold impl_DoneTable.l0
      repeat' first
      | (with_reducible exact ih0 _ _ _ _ _ _ _ _ _)
      | (with_reducible exact impl_Board_next.mono _ _ _ _ _ _)
      | (with_reducible exact impl_isThrown.mono _ _ _ _ _ _ _ _)
      | (with_reducible exact LeO.refl _)
      | (with_reducible exact LeO.none _)
      | (with_reducible refine LeO.ite ?_ ?_)
      | (with_reducible refine LeO.bind ?_ (fun _ => ?_))
      | exact ih0 _ _ _ _ _ _ _ _ _
      | exact impl_Board_next.mono _ _ _ _ _ _
      | exact impl_isThrown.mono _ _ _ _ _ _ _ _
      | exact LeO.none _
      | refine LeO.ite ?_ ?_
      | refine LeO.bind ?_ (fun _ => ?_)
theorem impl_DoneTable.mono : ∀ a0 a1 a2 a3 a4 a5 k, LeO (impl_DoneTable.f k a0 a1 a2 a3 a4 a5) (impl_DoneTable.f (k + 1) a0 a1 a2 a3 a4 a5) := by
  intro a0 a1 a2 a3 a4 a5 k
  have ih0 := impl_DoneTable.mono_l k
  unfold impl_DoneTable.f
  repeat' first
      | (with_reducible exact ih0 _ _ _ _ _ _ _ _ _)
      | (with_reducible exact impl_Board_next.mono _ _ _ _ _ _)
      | (with_reducible exact impl_isThrown.mono _ _ _ _ _ _ _ _)
      | (with_reducible exact LeO.refl _)
      | (with_reducible exact LeO.none _)
      | (with_reducible refine LeO.ite ?_ ?_)
      | (with_reducible refine LeO.bind ?_ (fun _ => ?_))
      | exact ih0 _ _ _ _ _ _ _ _ _
      | exact impl_Board_next.mono _ _ _ _ _ _
      | exact impl_isThrown.mono _ _ _ _ _ _ _ _
      | exact LeO.none _
      | refine LeO.ite ?_ ?_
      | refine LeO.bind ?_ (fun _ => ?_)
set_option maxHeartbeats 8000000 in
set_option maxRecDepth 100000 in
theorem impl_DoneTable.calls (k : Nat) (a0_0 : Int) (a0_1 : Int) (a0_2 : Int) (A0_3 : Option Addr) (c0_3 : Nat) (l0_3 : List (S27)) (a1 : Int) (a2 : Int) (r1 : List Int) (r2 : Bool) (w : World) (hr0_3 : Kd.C k27 w A0_3 l0_3.length l0_3) (hc0_3 : l0_3.length ≤ c0_3) (h : impl_DoneTable.f k a0_0 a0_1 a0_2 l0_3 a1 a2 = some (r1, r2)) :
    Calls Try.prog 90 #[.agg #[.int .i64 a0_0, .int .i64 a0_1, .int .i64 a0_2, .slice A0_3 l0_3.length c0_3], .int .i64 a1, .int .i64 a2] w fun e w' => ∃ v0_ : Value, e = .returned (.tuple #[v0_, .bool r2]) ∧ Kd.R (Kd.int .i64) 3 w' w.heap.size (fun _ => True) v0_ r1 ∧ Below w.heap.size w w' := by
  have hu32 := Try.underlying32
  have HR0_3 := Aside0.mk hr0_3
  have HC0_3 := Aside0.mk hc0_3
  clear hr0_3 hc0_3
  have HB := Aside0.mk (Below.refl w.heap.size w)
  have H : ((impl_isThrown.f k a0_0 a0_1 a0_2 l0_3 a2 20 (([a1] : List Int))).bind fun t180105 => (if t180105 = true then ((impl_Board_startOf.f a0_0 a0_1 a0_2 l0_3 a1).bind fun t180106 => (impl_DoneTable.l0 k a2 t180106 (([] : List Int)) (wrap64 (a2 + 1)) 0 a0_0 a0_1 a0_2 l0_3)) else (some (([] : List Int), false)))) = some (r1, r2) := h
  clear h
  obtain ⟨y180102, hy180102⟩ : ∃ y_ : List Int, y_ = (([a1] : List Int)) := ⟨_, rfl⟩
  replace H : ((impl_isThrown.f k a0_0 a0_1 a0_2 l0_3 a2 20 y180102).bind fun t180105 => (if t180105 = true then ((impl_Board_startOf.f a0_0 a0_1 a0_2 l0_3 a1).bind fun t180106 => (impl_DoneTable.l0 k a2 t180106 (([] : List Int)) (wrap64 (a2 + 1)) 0 a0_0 a0_1 a0_2 l0_3)) else (some (([] : List Int), false)))) = some (r1, r2) := by first | (rw [hy180102]; with_reducible exact H) | (have H2_ := (Option.bind_some _ _).symm.trans H; rw [hy180102]; with_reducible exact H2_) | (have H2_ := (Option.bind_some _ _).symm.trans H; with_reducible exact H2_) | with_reducible exact H | (rw [hy180102]; exact H) | exact H
  have Ny180102 := Aside0.mk hy180102
  clear hy180102
  replace H := Option.bind_eq_some_iff.mp H
  obtain ⟨t180105, A40, H⟩ := H
  replace H : (if t180105 = true then ((impl_Board_startOf.f a0_0 a0_1 a0_2 l0_3 a1).bind fun t180106 => (impl_DoneTable.l0 k a2 t180106 (([] : List Int)) (wrap64 (a2 + 1)) 0 a0_0 a0_1 a0_2 l0_3)) else (some (([] : List Int), false))) = some (r1, r2) := H
  have A4 := Aside0.mk A40
  clear A40
  by_cases c5 : t180105 = true
  · subst c5
    have H1 : ((impl_Board_startOf.f a0_0 a0_1 a0_2 l0_3 a1).bind fun t180106 => (impl_DoneTable.l0 k a2 t180106 (([] : List Int)) (wrap64 (a2 + 1)) 0 a0_0 a0_1 a0_2 l0_3)) = some (r1, r2) := by rw [if_pos rfl] at H; exact H
    clear H
    have H := H1
    clear H1
    replace H := Option.bind_eq_some_iff.mp H
    obtain ⟨t180106, A60, H⟩ := H
    replace H : (impl_DoneTable.l0 k a2 t180106 (([] : List Int)) (wrap64 (a2 + 1)) 0 a0_0 a0_1 a0_2 l0_3) = some (r1, r2) := H
    have A6 := Aside0.mk A60
    clear A60
    obtain ⟨y180109, hy180109⟩ : ∃ y_ : List Int, y_ = (([] : List Int)) := ⟨_, rfl⟩
    replace H : (impl_DoneTable.l0 k a2 t180106 y180109 (wrap64 (a2 + 1)) 0 a0_0 a0_1 a0_2 l0_3) = some (r1, r2) := by first | (rw [hy180109]; with_reducible exact H) | (have H2_ := (Option.bind_some _ _).symm.trans H; rw [hy180109]; with_reducible exact H2_) | (have H2_ := (Option.bind_some _ _).symm.trans H; with_reducible exact H2_) | with_reducible exact H | (rw [hy180109]; exact H) | exact H
    have Ny180109 := Aside0.mk hy180109
    clear hy180109
    have H' := Aside0.mk H
    clear H
    go_enter Try.func90, Try.ntmps90
    go_wp2_with (first | ((with_reducible refine gate_dst (N := 3) rfl ?_); refine box_event ?hg (N := 3) ?hd (cs := #[.int .i64 a0_0, .int .i64 a0_1, .int .i64 a0_2, .slice A0_3 l0_3.length c0_3]) (t := 32) ?hr ?_; (case hd => rfl); (case hg => rfl); (case hr => first | (go_simp; done) | (go_simp; rfl)); intro gb180101 hg w7 hbox hb; have n0_ := Aside0.mk (below_step (by repeat (first | (with_reducible first | exact HB.out | apply below_alloc | apply pw_below_drewN | apply below_drew1) | exact HB.out)) hb); have n1_ := Aside0.mk (hbox); have n2_ := Aside0.mk ((by rw [hg]; exact (below_size (by repeat (first | (with_reducible first | exact HB.out | apply below_alloc | apply pw_below_drewN | apply below_drew1) | exact HB.out))) : w.heap.size ≤ gb180101)); have n3_ := Aside0.mk ((by rw [hg]; exact (below_size (by repeat (first | (with_reducible first | exact HB.out | apply below_alloc | apply pw_below_drewN | apply below_drew1) | exact HB.out))) : w.heap.size ≤ gb180101)); clear HB; have HB := n0_; have BK180101 := n1_; have GW180101 := n2_; have GE180101 := n3_; clear n0_ n1_ n2_ n3_; clear hb hbox hg; have hcz8_0 : w7.cell? ⟨gb180101, 0, none⟩ = some (.int .i64 a0_0) := (blk_cell BK180101.out 0).trans rfl; have hcz8_1 : w7.cell? ⟨gb180101, 1, none⟩ = some (.int .i64 a0_1) := (blk_cell BK180101.out 1).trans rfl; have hcz8_2 : w7.cell? ⟨gb180101, 2, none⟩ = some (.int .i64 a0_2) := (blk_cell BK180101.out 2).trans rfl; have hcz8_3 : w7.cell? ⟨gb180101, 3, none⟩ = some (.slice A0_3 l0_3.length c0_3) := (blk_cell BK180101.out 3).trans rfl; have hfz8_0 := blk_frozen BK180101.out 0; have hfz8_1 := blk_frozen BK180101.out 1; have hfz8_2 := blk_frozen BK180101.out 2; have hfz8_3 := blk_frozen BK180101.out 3) | ((with_reducible refine gate_dst (N := 14) rfl ?_); refine Kd.R_lit (Kd.int .i64) _ 3 ?hg (N := 14) ?hd (xs := ([a1] : List Int)) (inner := [.int .i64 a1]) (ok := fun _ => True) (okp := fun _ => True) ?hr ?hp (fun _ hk => hk) trivial (Below.refl _ _) (Nat.le_refl _) (by simp) ?_; (case hd => rfl); (case hg => rfl); (case hr => first | (go_simp; done) | (go_simp; rfl)); (case hp => exact (Reps.one (show Kd.M (Kd.int .i64) _ _ _ a1 [.int .i64 a1] from rfl) (Reps.none _ _))); intro v180103 w9 ho10 hb hg_ hnew_; clear hg_ hnew_; (first | rw [← Ny180102.out] at ho10 | (simp only [Int.reduceToNat] at ho10; rw [← Ny180102.out] at ho10)); have n0_ := Aside0.mk (Kd.R_lower ho10 (below_size (by repeat (first | (with_reducible first | exact HB.out | apply below_alloc | apply pw_below_drewN | apply below_drew1 | refine below_set ?_ GE180101.out) | exact HB.out)))); have n1_ := Aside0.mk (blk_below (g := gb180101) (o := .cells #[.int .i64 a0_0, .int .i64 a0_1, .int .i64 a0_2, .slice A0_3 l0_3.length c0_3] 32 (0, 0)) (by (with_reducible repeat (first | refine blk_drewN ?_ _ | refine blk_drew ?_ | refine blk_alloc ?_ _)); exact BK180101.out) hb); have n2_ := Aside0.mk (below_step (by repeat (first | (with_reducible first | exact HB.out | apply below_alloc | apply pw_below_drewN | apply below_drew1 | refine below_set ?_ GE180101.out) | exact HB.out)) hb); clear BK180101; clear HB; have HO180104 := n0_; have BK180101 := n1_; have HB := n2_; clear n0_ n1_ n2_; clear hb ho10; obtain ⟨Ao11, co11, eo11⟩ := Kd.R_slice HO180104.out; subst eo11) | ((with_reducible refine gate_callee (f := 158) rfl ?_); refine goesL_ (some 15) rfl rfl Try.func158 (by kernel_rfl) rfl #[.agg #[.int .i64 a0_0, .int .i64 a0_1, .int .i64 a0_2, .slice A0_3 l0_3.length c0_3], .int .i64 a2, .int .i64 20, .slice Ao11 y180102.length co11] rfl (by (try simp only [List.map_toArray, List.map_cons, List.map_nil]); first | done | rfl | (simp only [List.length_drop, List.length_take]; rfl)) ?_; (with_reducible refine (impl_isThrown.calls k a0_0 a0_1 a0_2 _ _ l0_3 a2 20 _ _ y180102 true _ ?side1 ?side2 ?side3 ?side4 A4.out).mono ?_); (case side1 => repeat (first | exact (Kd.C_below HR0_3.out HB.out) | (with_reducible refine Kd.C_alloc ?_ _) | (with_reducible refine Kd.C_drewN ?_ _) | (with_reducible refine Kd.C_drew ?_))); (case side2 => exact HC0_3.out); (case side3 => repeat (first | exact (Kd.R_reads' HO180104.out).2.2 | (with_reducible refine Kd.C_alloc ?_ _) | (with_reducible refine Kd.C_drewN ?_ _) | (with_reducible refine Kd.C_drew ?_))); (case side4 => exact (Kd.R_reads' HO180104.out).2.1); rintro e w12 ⟨rfl, hb⟩; refine ⟨_, rfl, ?_⟩; have n0_ := Aside0.mk (Kd.R_below (by (with_reducible repeat (first | apply Kd.R_alloc | apply Kd.R_drewN | apply Kd.R_drew)); exact HO180104.out) hb); have n1_ := Aside0.mk (blk_below (g := gb180101) (o := .cells #[.int .i64 a0_0, .int .i64 a0_1, .int .i64 a0_2, .slice A0_3 l0_3.length c0_3] 32 (0, 0)) (by (with_reducible repeat (first | refine blk_drewN ?_ _ | refine blk_drew ?_ | refine blk_alloc ?_ _)); exact BK180101.out) hb); have n2_ := Aside0.mk (below_step (by repeat (first | (with_reducible first | exact HB.out | apply below_alloc | apply pw_below_drewN | apply below_drew1 | refine below_set ?_ GE180101.out) | exact HB.out)) hb); clear HO180104; clear BK180101; clear HB; have HO180104 := n0_; have BK180101 := n1_; have HB := n2_; clear n0_ n1_ n2_; (try clear hb); (try clear hb2); (try clear hk); (try clear hi); have hcz13_0 : w12.cell? ⟨gb180101, 0, none⟩ = some (.int .i64 a0_0) := (blk_cell BK180101.out 0).trans rfl; have hcz13_1 : w12.cell? ⟨gb180101, 1, none⟩ = some (.int .i64 a0_1) := (blk_cell BK180101.out 1).trans rfl; have hcz13_2 : w12.cell? ⟨gb180101, 2, none⟩ = some (.int .i64 a0_2) := (blk_cell BK180101.out 2).trans rfl; have hcz13_3 : w12.cell? ⟨gb180101, 3, none⟩ = some (.slice A0_3 l0_3.length c0_3) := (blk_cell BK180101.out 3).trans rfl; have hfz13_0 := blk_frozen BK180101.out 0; have hfz13_1 := blk_frozen BK180101.out 1; have hfz13_2 := blk_frozen BK180101.out 2; have hfz13_3 := blk_frozen BK180101.out 3) | ((with_reducible refine gate_callee (f := 163) rfl ?_); refine goesL_ (some 19) rfl rfl Try.func163 (by kernel_rfl) rfl #[.agg #[.int .i64 a0_0, .int .i64 a0_1, .int .i64 a0_2, .slice A0_3 l0_3.length c0_3], .int .i64 a1] rfl (by (try simp only [List.map_toArray, List.map_cons, List.map_nil]); first | done | rfl | (simp only [List.length_drop, List.length_take]; rfl)) ?_; (with_reducible refine (impl_Board_startOf.calls a0_0 a0_1 a0_2 _ _ l0_3 a1 t180106 _ ?side1 ?side2 A6.out).mono ?_); (case side1 => repeat (first | exact (Kd.C_below HR0_3.out HB.out) | (with_reducible refine Kd.C_alloc ?_ _) | (with_reducible refine Kd.C_drewN ?_ _) | (with_reducible refine Kd.C_drew ?_))); (case side2 => exact HC0_3.out); rintro e w14 ⟨v180107, rfl, ho0, hb⟩; refine ⟨_, rfl, ?_⟩; have n0_ := Aside0.mk (Kd.R_elder' (by (with_reducible repeat (first | apply Kd.R_alloc | apply Kd.R_drewN | apply Kd.R_drew)); exact HO180104.out) (Kd.R_base ho0) hb); have n1_ := Aside0.mk (Kd.R_lower (Kd.R_new' ho0 (Kd.R_lt (by (with_reducible repeat (first | apply Kd.R_alloc | apply Kd.R_drewN | apply Kd.R_drew)); exact HO180104.out))) (below_size (by repeat (first | (with_reducible first | exact HB.out | apply below_alloc | apply pw_below_drewN | apply below_drew1 | refine below_set ?_ GE180101.out) | exact HB.out)))); have n2_ := Aside0.mk (blk_below (g := gb180101) (o := .cells #[.int .i64 a0_0, .int .i64 a0_1, .int .i64 a0_2, .slice A0_3 l0_3.length c0_3] 32 (0, 0)) (by (with_reducible repeat (first | refine blk_drewN ?_ _ | refine blk_drew ?_ | refine blk_alloc ?_ _)); exact BK180101.out) hb); have n3_ := Aside0.mk (below_step (by repeat (first | (with_reducible first | exact HB.out | apply below_alloc | apply pw_below_drewN | apply below_drew1 | refine below_set ?_ GE180101.out) | exact HB.out)) hb); clear HO180104; clear BK180101; clear HB; have HO180104 := n0_; have HO180108 := n1_; have BK180101 := n2_; have HB := n3_; clear n0_ n1_ n2_ n3_; (try clear hb); (try clear hb2); (try clear hk); (try clear hi); (try clear ho0)) | ((with_reducible refine gate_dst (N := 20) rfl ?_); refine Kd.R_lit (Kd.int .i64) _ 3 ?hg (N := 20) ?hd (xs := ([] : List Int)) (inner := []) (ok := fun _ => True) (okp := fun _ => True) ?hr ?hp (fun _ hk => hk) trivial (Below.refl _ _) (Nat.le_refl _) (by simp) ?_; (case hd => rfl); (case hg => rfl); (case hr => first | (go_simp; done) | (go_simp; rfl)); (case hp => exact (Reps.none _ _)); intro v180110 w15 ho16 hb hg_ hnew_; clear hg_ hnew_; (first | rw [← Ny180109.out] at ho16 | (simp only [Int.reduceToNat] at ho16; rw [← Ny180109.out] at ho16)); have n0_ := Aside0.mk (Kd.R_elder' (by (with_reducible repeat (first | apply Kd.R_alloc | apply Kd.R_drewN | apply Kd.R_drew)); exact HO180104.out) (Kd.R_base ho16) hb); have n1_ := Aside0.mk (Kd.R_elder' (by (with_reducible repeat (first | apply Kd.R_alloc | apply Kd.R_drewN | apply Kd.R_drew)); exact HO180108.out) (Kd.R_base ho16) hb); have n2_ := Aside0.mk (Kd.R_lower (Kd.R_new' (Kd.R_new' ho16 (Kd.R_lt (by (with_reducible repeat (first | apply Kd.R_alloc | apply Kd.R_drewN | apply Kd.R_drew)); exact HO180104.out))) (Kd.R_lt (by (with_reducible repeat (first | apply Kd.R_alloc | apply Kd.R_drewN | apply Kd.R_drew)); exact HO180108.out))) (below_size (by repeat (first | (with_reducible first | exact HB.out | apply below_alloc | apply pw_below_drewN | apply below_drew1 | refine below_set ?_ GE180101.out) | exact HB.out)))); have n3_ := Aside0.mk (blk_below (g := gb180101) (o := .cells #[.int .i64 a0_0, .int .i64 a0_1, .int .i64 a0_2, .slice A0_3 l0_3.length c0_3] 32 (0, 0)) (by (with_reducible repeat (first | refine blk_drewN ?_ _ | refine blk_drew ?_ | refine blk_alloc ?_ _)); exact BK180101.out) hb); have n4_ := Aside0.mk (below_step (by repeat (first | (with_reducible first | exact HB.out | apply below_alloc | apply pw_below_drewN | apply below_drew1 | refine below_set ?_ GE180101.out) | exact HB.out)) hb); clear HO180104; clear HO180108; clear BK180101; clear HB; have HO180104 := n0_; have HO180108 := n1_; have HO180111 := n2_; have BK180101 := n3_; have HB := n4_; clear n0_ n1_ n2_ n3_ n4_; clear hb ho16))
    go_loopg [8, 9, 23] k (fun kq v8 v9 v23 w' => ∃ (x8_1 : List Int) (x9_1 : List Int) (x23_1 : Int), v23 = .int .i64 x23_1 ∧ Aside0 (impl_DoneTable.l0 kq a2 x8_1 x9_1 (wrap64 (a2 + 1)) x23_1 a0_0 a0_1 a0_2 l0_3 = some (r1, r2)) ∧ Aside0 (kq ≤ k) ∧ Aside0 (Kd.R (Kd.int .i64) 3 w' w.heap.size (fun k_ => some k_ ≠ (v9 : Value).ownBlock) v8 x8_1) ∧ Aside0 (Kd.R (Kd.int .i64) 3 w' w.heap.size (fun k_ => some k_ ≠ (v8 : Value).ownBlock) v9 x9_1) ∧ Aside0 (w'.heap[gb180101]? = some (.cells #[.int .i64 a0_0, .int .i64 a0_1, .int .i64 a0_2, (.slice A0_3 l0_3.length c0_3)] 32 (0, 0))) ∧ Aside0 (Below w.heap.size w w'))
    case atStart => exact ⟨(t180106), (y180109), (0), (by first | rfl | (simp; done) | (simp [*]; done)), H', ⟨Nat.le_refl _⟩, ⟨by (with_reducible repeat (first | apply Kd.R_alloc | apply Kd.R_drewN | apply Kd.R_drew)); exact Kd.R_mono HO180108.out (fun _ hk => hk.2)⟩, ⟨by (with_reducible repeat (first | apply Kd.R_alloc | apply Kd.R_drewN | apply Kd.R_drew)); exact Kd.R_mono HO180111.out (fun _ hk => hk.2)⟩, ⟨by (with_reducible repeat (first | refine blk_drewN ?_ _ | refine blk_drew ?_ | refine blk_alloc ?_ _)); exact BK180101.out⟩, ⟨by repeat (first | (with_reducible first | exact HB.out | apply below_alloc | apply pw_below_drewN | apply below_drew1 | refine below_set ?_ GE180101.out) | exact HB.out)⟩⟩
    case round =>
      clear H'
      try clear c1
      try clear p2
      try clear c5
      try clear p6
      try clear c9
      try clear c15
      try clear c16
      try clear hcz13_0
      try clear hcz13_1
      try clear hcz13_2
      try clear hcz13_3
      try clear hcz8_0
      try clear hcz8_1
      try clear hcz8_2
      try clear hcz8_3
      try clear hfz13_0
      try clear hfz13_1
      try clear hfz13_2
      try clear hfz13_3
      try clear hfz8_0
      try clear hfz8_1
      try clear hfz8_2
      try clear hfz8_3
      obtain ⟨x8_1, x9_1, x23_1, rfl, HA, HK1, HO_8, HO_9, BK180101, HB⟩ := hrel
      cases gk with
      | zero => exact absurd HA.out (by simp [impl_DoneTable.l0])
      | succ k1 =>
        have H := HA.out
        clear HA
        simp only [impl_DoneTable.l0] at H
        by_cases c17 : x23_1 < (wrap64 (a2 + 1))
        · rw [if_pos c17] at H
          have c17b0 : decide (x23_1 < (wrap64 (a2 + 1))) = true := decide_eq_true c17
          clear c17
          by_cases c18 : 0 ≤ a0_0
          · rw [if_pos c18] at H
            have c18b0 : decide (0 ≤ a0_0) = true := decide_eq_true c18
            clear c18
            by_cases c19 : a0_0 < (x8_1.length : Int)
            · rw [if_pos c19] at H
              have c19b0 : decide (a0_0 < (x8_1.length : Int)) = true := decide_eq_true c19
              clear c19
              by_cases c20 : x9_1.length < 17592186044416
              · rw [if_pos c20] at H
                have LMc20 := Aside0.mk c20
                clear c20
                obtain ⟨y180113, hy180113⟩ : ∃ y_ : List Int, y_ = (x9_1 ++ [rd x8_1 a0_0]) := ⟨_, rfl⟩
                replace H : (if x23_1 < a2 then ((impl_Board_next.f k1 a0_0 a0_1 a0_2 l0_3 x8_1).bind fun t180116 => (impl_DoneTable.l0 k1 a2 t180116 y180113 (wrap64 (a2 + 1)) (wrap64 (x23_1 + 1)) a0_0 a0_1 a0_2 l0_3)) else (impl_DoneTable.l0 k1 a2 x8_1 y180113 (wrap64 (a2 + 1)) (wrap64 (x23_1 + 1)) a0_0 a0_1 a0_2 l0_3)) = some (r1, r2) := by first | (rw [hy180113]; with_reducible exact H) | (have H2_ := (Option.bind_some _ _).symm.trans H; rw [hy180113]; with_reducible exact H2_) | (have H2_ := (Option.bind_some _ _).symm.trans H; with_reducible exact H2_) | with_reducible exact H | (rw [hy180113]; exact H) | exact H
                have Ny180113 := Aside0.mk hy180113
                clear hy180113
                by_cases c21 : x23_1 < a2
                · rw [if_pos c21] at H
                  have c21b0 : decide (x23_1 < a2) = true := decide_eq_true c21
                  clear c21
                  replace H := Option.bind_eq_some_iff.mp H
                  obtain ⟨t180116, A220, H⟩ := H
                  replace H : (impl_DoneTable.l0 k1 a2 t180116 y180113 (wrap64 (a2 + 1)) (wrap64 (x23_1 + 1)) a0_0 a0_1 a0_2 l0_3) = some (r1, r2) := H
                  have A22 := Aside0.mk A220
                  clear A220
                  have H' := Aside0.mk H
                  clear H
                  have hcz23_0 : wr.cell? ⟨gb180101, 0, none⟩ = some (.int .i64 a0_0) := (blk_cell BK180101.out 0).trans rfl
                  have hcz23_1 : wr.cell? ⟨gb180101, 1, none⟩ = some (.int .i64 a0_1) := (blk_cell BK180101.out 1).trans rfl
                  have hcz23_2 : wr.cell? ⟨gb180101, 2, none⟩ = some (.int .i64 a0_2) := (blk_cell BK180101.out 2).trans rfl
                  have hcz23_3 : wr.cell? ⟨gb180101, 3, none⟩ = some (.slice A0_3 l0_3.length c0_3) := (blk_cell BK180101.out 3).trans rfl
                  have hfz23_0 := blk_frozen BK180101.out 0
                  have hfz23_1 := blk_frozen BK180101.out 1
                  have hfz23_2 := blk_frozen BK180101.out 2
                  have hfz23_3 := blk_frozen BK180101.out 3
                  obtain ⟨Ao24, co24, eo24⟩ := Kd.R_slice HO_8.out
                  subst eo24
                  have p180112 : 0 ≤ (a0_0 : Int) := of_decide_eq_true (by first | (with_reducible assumption) | assumption)
                  have q180112 : a0_0 < (x8_1.length : Int) := of_decide_eq_true (by first | (with_reducible assumption) | assumption)
                  obtain ⟨ad180112, e180112, hx180112_0⟩ := Kd.at_int (Kd.R_reads' HO_8.out).2.2 a0_0 p180112 q180112
                  cases e180112
                  replace p180112 := eq_true p180112
                  replace q180112 := eq_true q180112
                  go_wp2_with (first | ((with_reducible refine gate_builtin (b := .append) (xs := #[.tmp 26, .tmp 32]) rfl ?_); at_builtin; refine Kd.R_append (Kd.int .i64) (w0 := w) w.heap.size rfl (.tmp 26) (.tmp 32) 58 3 (.int .i64 0) 8 rfl Try.underlying58 info3 rfl (by decide) (by omega) u9 x9_1 (rd x8_1 a0_0) [.int .i64 (rd x8_1 a0_0)] (fun k_ => some k_ ≠ (.slice (some ad180112) x8_1.length co24 : Value).ownBlock) (fun _ => False) rfl rfl ?aP (fun _ hk => hk.elim) ?aF ?aO ?aB ?aS ?aL ?_; (case aP => exact rfl); (case aB => exact (by repeat (first | (with_reducible first | exact HB.out | apply below_alloc | apply pw_below_drewN | apply below_drew1 | refine below_set ?_ GE180101.out) | exact HB.out))); (case aF => exact (fun k_ hk => Kd.fresh' (Kd.R_lt (by (with_reducible repeat (first | apply Kd.R_alloc | apply Kd.R_drewN | apply Kd.R_drew)); exact HO_8.out)) k_ hk)); (case aO => exact (by (with_reducible repeat (first | apply Kd.R_alloc | apply Kd.R_drewN | apply Kd.R_drew)); exact HO_9.out)); (case aS => exact (below_size (by repeat (first | (with_reducible first | exact HB.out | apply below_alloc | apply pw_below_drewN | apply below_drew1 | refine below_set ?_ GE180101.out) | exact HB.out)))); (case aL => have := LMc20.out; omega); intro v180114 w25 ho hb hg hat; rw [← Ny180113.out] at ho; have n0_ := Aside0.mk (Kd.R_after (ok := (fun _ => True)) (by (with_reducible repeat (first | apply Kd.R_alloc | apply Kd.R_drewN | apply Kd.R_drew)); exact Kd.R_mono HO_8.out (fun _ hk => ⟨trivial, hk⟩)) hg hat); have n1_ := Aside0.mk (blk_grown (g := gb180101) (o := .cells #[.int .i64 a0_0, .int .i64 a0_1, .int .i64 a0_2, .slice A0_3 l0_3.length c0_3] 32 (0, 0)) (by (with_reducible repeat (first | refine blk_drewN ?_ _ | refine blk_drew ?_ | refine blk_alloc ?_ _)); exact BK180101.out) hg (Kd.R_ne HO_9.out BK180101.out (by decide))); have n2_ := Aside0.mk (hb); have n3_ := Aside0.mk (ho); clear HO_8; clear BK180101; clear HB; clear HO_9; have HO_8 := n0_; have BK180101 := n1_; have HB := n2_; have HO180115 := n3_; clear n0_ n1_ n2_ n3_; clear ho hb hg hat; have hcz26_0 : w25.cell? ⟨gb180101, 0, none⟩ = some (.int .i64 a0_0) := (blk_cell BK180101.out 0).trans rfl; have hcz26_1 : w25.cell? ⟨gb180101, 1, none⟩ = some (.int .i64 a0_1) := (blk_cell BK180101.out 1).trans rfl; have hcz26_2 : w25.cell? ⟨gb180101, 2, none⟩ = some (.int .i64 a0_2) := (blk_cell BK180101.out 2).trans rfl; have hcz26_3 : w25.cell? ⟨gb180101, 3, none⟩ = some (.slice A0_3 l0_3.length c0_3) := (blk_cell BK180101.out 3).trans rfl; have hfz26_0 := blk_frozen BK180101.out 0; have hfz26_1 := blk_frozen BK180101.out 1; have hfz26_2 := blk_frozen BK180101.out 2; have hfz26_3 := blk_frozen BK180101.out 3) | ((with_reducible refine gate_callee (f := 164) rfl ?_); refine goesL_ (some 39) rfl rfl Try.func164 (by kernel_rfl) rfl #[.agg #[.int .i64 a0_0, .int .i64 a0_1, .int .i64 a0_2, .slice A0_3 l0_3.length c0_3], .slice (some ad180112) x8_1.length co24] rfl (by (try simp only [List.map_toArray, List.map_cons, List.map_nil]); first | done | rfl | (simp only [List.length_drop, List.length_take]; rfl)) ?_; (with_reducible refine (impl_Board_next.calls k1 a0_0 a0_1 a0_2 _ _ l0_3 _ _ x8_1 t180116 _ ?side1 ?side2 ?side3 ?side4 A22.out).mono ?_); (case side1 => repeat (first | exact (Kd.C_below HR0_3.out HB.out) | (with_reducible refine Kd.C_alloc ?_ _) | (with_reducible refine Kd.C_drewN ?_ _) | (with_reducible refine Kd.C_drew ?_))); (case side2 => exact HC0_3.out); (case side3 => repeat (first | exact (Kd.R_reads' HO_8.out).2.2 | (with_reducible refine Kd.C_alloc ?_ _) | (with_reducible refine Kd.C_drewN ?_ _) | (with_reducible refine Kd.C_drew ?_))); (case side4 => exact (Kd.R_reads' HO_8.out).2.1); rintro e w27 ⟨v180117, rfl, ho0, hb⟩; refine ⟨_, rfl, ?_⟩; have n0_ := Aside0.mk (Kd.R_elder' (by (with_reducible repeat (first | apply Kd.R_alloc | apply Kd.R_drewN | apply Kd.R_drew)); exact HO_8.out) (Kd.R_base ho0) hb); have n1_ := Aside0.mk (Kd.R_elder' (by (with_reducible repeat (first | apply Kd.R_alloc | apply Kd.R_drewN | apply Kd.R_drew)); exact HO180115.out) (Kd.R_base ho0) hb); have n2_ := Aside0.mk (Kd.R_lower (Kd.R_new' (Kd.R_new' ho0 (Kd.R_lt (by (with_reducible repeat (first | apply Kd.R_alloc | apply Kd.R_drewN | apply Kd.R_drew)); exact HO_8.out))) (Kd.R_lt (by (with_reducible repeat (first | apply Kd.R_alloc | apply Kd.R_drewN | apply Kd.R_drew)); exact HO180115.out))) (below_size (by repeat (first | (with_reducible first | exact HB.out | apply below_alloc | apply pw_below_drewN | apply below_drew1 | refine below_set ?_ GE180101.out) | exact HB.out)))); have n3_ := Aside0.mk (blk_below (g := gb180101) (o := .cells #[.int .i64 a0_0, .int .i64 a0_1, .int .i64 a0_2, .slice A0_3 l0_3.length c0_3] 32 (0, 0)) (by (with_reducible repeat (first | refine blk_drewN ?_ _ | refine blk_drew ?_ | refine blk_alloc ?_ _)); exact BK180101.out) hb); have n4_ := Aside0.mk (below_step (by repeat (first | (with_reducible first | exact HB.out | apply below_alloc | apply pw_below_drewN | apply below_drew1 | refine below_set ?_ GE180101.out) | exact HB.out)) hb); clear HO_8; clear HO180115; clear BK180101; clear HB; have HO_8 := n0_; have HO180115 := n1_; have HO180118 := n2_; have BK180101 := n3_; have HB := n4_; clear n0_ n1_ n2_ n3_ n4_; (try clear hb); (try clear hb2); (try clear hk); (try clear hi); (try clear ho0)))
                  go_roundg k1
                  case measure => have := HK1.out; omega
                  case rel => exact ⟨(t180116), (y180113), (wrap64 (x23_1 + 1)), (by first | rfl | (simp; done) | (simp [*]; done)), H', ⟨by have := HK1.out; omega⟩, ⟨by (with_reducible repeat (first | apply Kd.R_alloc | apply Kd.R_drewN | apply Kd.R_drew)); exact Kd.R_mono HO180118.out (fun _ hk => hk.2)⟩, ⟨by (with_reducible repeat (first | apply Kd.R_alloc | apply Kd.R_drewN | apply Kd.R_drew)); exact Kd.R_mono HO180115.out (fun _ hk => hk.2)⟩, ⟨by (with_reducible repeat (first | refine blk_drewN ?_ _ | refine blk_drew ?_ | refine blk_alloc ?_ _)); exact BK180101.out⟩, ⟨by repeat (first | (with_reducible first | exact HB.out | apply below_alloc | apply pw_below_drewN | apply below_drew1 | refine below_set ?_ GE180101.out) | exact HB.out)⟩⟩
                · rw [if_neg c21] at H
                  have c21b0 : decide (x23_1 < a2) = false := decide_eq_false c21
                  clear c21
                  have H' := Aside0.mk H
                  clear H
                  have hcz28_0 : wr.cell? ⟨gb180101, 0, none⟩ = some (.int .i64 a0_0) := (blk_cell BK180101.out 0).trans rfl
                  have hcz28_1 : wr.cell? ⟨gb180101, 1, none⟩ = some (.int .i64 a0_1) := (blk_cell BK180101.out 1).trans rfl
                  have hcz28_2 : wr.cell? ⟨gb180101, 2, none⟩ = some (.int .i64 a0_2) := (blk_cell BK180101.out 2).trans rfl
                  have hcz28_3 : wr.cell? ⟨gb180101, 3, none⟩ = some (.slice A0_3 l0_3.length c0_3) := (blk_cell BK180101.out 3).trans rfl
                  have hfz28_0 := blk_frozen BK180101.out 0
                  have hfz28_1 := blk_frozen BK180101.out 1
                  have hfz28_2 := blk_frozen BK180101.out 2
                  have hfz28_3 := blk_frozen BK180101.out 3
                  obtain ⟨Ao29, co29, eo29⟩ := Kd.R_slice HO_8.out
                  subst eo29
                  have p180112 : 0 ≤ (a0_0 : Int) := of_decide_eq_true (by first | (with_reducible assumption) | assumption)
                  have q180112 : a0_0 < (x8_1.length : Int) := of_decide_eq_true (by first | (with_reducible assumption) | assumption)
                  obtain ⟨ad180112, e180112, hx180112_0⟩ := Kd.at_int (Kd.R_reads' HO_8.out).2.2 a0_0 p180112 q180112
                  cases e180112
                  replace p180112 := eq_true p180112
                  replace q180112 := eq_true q180112
                  go_wp2_with (first | ((with_reducible refine gate_builtin (b := .append) (xs := #[.tmp 26, .tmp 32]) rfl ?_); at_builtin; refine Kd.R_append (Kd.int .i64) (w0 := w) w.heap.size rfl (.tmp 26) (.tmp 32) 58 3 (.int .i64 0) 8 rfl Try.underlying58 info3 rfl (by decide) (by omega) u9 x9_1 (rd x8_1 a0_0) [.int .i64 (rd x8_1 a0_0)] (fun k_ => some k_ ≠ (.slice (some ad180112) x8_1.length co29 : Value).ownBlock) (fun _ => False) rfl rfl ?aP (fun _ hk => hk.elim) ?aF ?aO ?aB ?aS ?aL ?_; (case aP => exact rfl); (case aB => exact (by repeat (first | (with_reducible first | exact HB.out | apply below_alloc | apply pw_below_drewN | apply below_drew1 | refine below_set ?_ GE180101.out) | exact HB.out))); (case aF => exact (fun k_ hk => Kd.fresh' (Kd.R_lt (by (with_reducible repeat (first | apply Kd.R_alloc | apply Kd.R_drewN | apply Kd.R_drew)); exact HO_8.out)) k_ hk)); (case aO => exact (by (with_reducible repeat (first | apply Kd.R_alloc | apply Kd.R_drewN | apply Kd.R_drew)); exact HO_9.out)); (case aS => exact (below_size (by repeat (first | (with_reducible first | exact HB.out | apply below_alloc | apply pw_below_drewN | apply below_drew1 | refine below_set ?_ GE180101.out) | exact HB.out)))); (case aL => have := LMc20.out; omega); intro v180114 w30 ho hb hg hat; rw [← Ny180113.out] at ho; have n0_ := Aside0.mk (Kd.R_after (ok := (fun _ => True)) (by (with_reducible repeat (first | apply Kd.R_alloc | apply Kd.R_drewN | apply Kd.R_drew)); exact Kd.R_mono HO_8.out (fun _ hk => ⟨trivial, hk⟩)) hg hat); have n1_ := Aside0.mk (blk_grown (g := gb180101) (o := .cells #[.int .i64 a0_0, .int .i64 a0_1, .int .i64 a0_2, .slice A0_3 l0_3.length c0_3] 32 (0, 0)) (by (with_reducible repeat (first | refine blk_drewN ?_ _ | refine blk_drew ?_ | refine blk_alloc ?_ _)); exact BK180101.out) hg (Kd.R_ne HO_9.out BK180101.out (by decide))); have n2_ := Aside0.mk (hb); have n3_ := Aside0.mk (ho); clear HO_8; clear BK180101; clear HB; clear HO_9; have HO_8 := n0_; have BK180101 := n1_; have HB := n2_; have HO180115 := n3_; clear n0_ n1_ n2_ n3_; clear ho hb hg hat))
                  go_roundg k1
                  case measure => have := HK1.out; omega
                  case rel => exact ⟨(x8_1), (y180113), (wrap64 (x23_1 + 1)), (by first | rfl | (simp; done) | (simp [*]; done)), H', ⟨by have := HK1.out; omega⟩, ⟨by (with_reducible repeat (first | apply Kd.R_alloc | apply Kd.R_drewN | apply Kd.R_drew)); exact Kd.R_mono HO_8.out (fun _ hk => hk.2)⟩, ⟨by (with_reducible repeat (first | apply Kd.R_alloc | apply Kd.R_drewN | apply Kd.R_drew)); exact HO180115.out⟩, ⟨by (with_reducible repeat (first | refine blk_drewN ?_ _ | refine blk_drew ?_ | refine blk_alloc ?_ _)); exact BK180101.out⟩, ⟨by repeat (first | (with_reducible first | exact HB.out | apply below_alloc | apply pw_below_drewN | apply below_drew1 | refine below_set ?_ GE180101.out) | exact HB.out)⟩⟩
              · rw [if_neg c20] at H
                exact absurd H (by simp)
            · rw [if_neg c19] at H
              exact absurd H (by simp)
          · rw [if_neg c18] at H
            exact absurd H (by simp)
        · rw [if_neg c17] at H
          have c17b0 : decide (x23_1 < (wrap64 (a2 + 1))) = false := decide_eq_false c17
          clear c17
          simp only [Option.some.injEq, Prod.mk.injEq] at H
          obtain ⟨rfl, rfl⟩ := H
          go_wp2
          go_ret2
          exact ⟨_, by first | rfl | (simp [errW_none, errW_some] <;> rfl) | (simp [*, errW_none, errW_some] <;> rfl), by (with_reducible repeat (first | apply Kd.R_alloc | apply Kd.R_drewN | apply Kd.R_drew)); exact Kd.R_mono HO_9.out (fun _ hk => trivial), by repeat (first | (with_reducible first | exact HB.out | apply below_alloc | apply pw_below_drewN | apply below_drew1 | refine below_set ?_ GE180101.out) | exact HB.out)⟩
  · replace c5 := Bool.eq_false_iff.mpr c5
    subst c5
    have H1 : (some (([] : List Int), false)) = some (r1, r2) := by rw [if_neg (show ¬ (false = true) by decide)] at H; exact H
    clear H
    have H := H1
    clear H1
    simp only [Option.some.injEq, Prod.mk.injEq] at H
    obtain ⟨rfl, rfl⟩ := H
    go_enter Try.func90, Try.ntmps90
    go_wp2_with (first | ((with_reducible refine gate_dst (N := 3) rfl ?_); refine box_event ?hg (N := 3) ?hd (cs := #[.int .i64 a0_0, .int .i64 a0_1, .int .i64 a0_2, .slice A0_3 l0_3.length c0_3]) (t := 32) ?hr ?_; (case hd => rfl); (case hg => rfl); (case hr => first | (go_simp; done) | (go_simp; rfl)); intro gb180101 hg w31 hbox hb; have n0_ := Aside0.mk (below_step (by repeat (first | (with_reducible first | exact HB.out | apply below_alloc | apply pw_below_drewN | apply below_drew1) | exact HB.out)) hb); have n1_ := Aside0.mk (hbox); have n2_ := Aside0.mk ((by rw [hg]; exact (below_size (by repeat (first | (with_reducible first | exact HB.out | apply below_alloc | apply pw_below_drewN | apply below_drew1) | exact HB.out))) : w.heap.size ≤ gb180101)); have n3_ := Aside0.mk ((by rw [hg]; exact (below_size (by repeat (first | (with_reducible first | exact HB.out | apply below_alloc | apply pw_below_drewN | apply below_drew1) | exact HB.out))) : w.heap.size ≤ gb180101)); clear HB; have HB := n0_; have BK180101 := n1_; have GW180101 := n2_; have GE180101 := n3_; clear n0_ n1_ n2_ n3_; clear hb hbox hg; have hcz32_0 : w31.cell? ⟨gb180101, 0, none⟩ = some (.int .i64 a0_0) := (blk_cell BK180101.out 0).trans rfl; have hcz32_1 : w31.cell? ⟨gb180101, 1, none⟩ = some (.int .i64 a0_1) := (blk_cell BK180101.out 1).trans rfl; have hcz32_2 : w31.cell? ⟨gb180101, 2, none⟩ = some (.int .i64 a0_2) := (blk_cell BK180101.out 2).trans rfl; have hcz32_3 : w31.cell? ⟨gb180101, 3, none⟩ = some (.slice A0_3 l0_3.length c0_3) := (blk_cell BK180101.out 3).trans rfl; have hfz32_0 := blk_frozen BK180101.out 0; have hfz32_1 := blk_frozen BK180101.out 1; have hfz32_2 := blk_frozen BK180101.out 2; have hfz32_3 := blk_frozen BK180101.out 3) | ((with_reducible refine gate_dst (N := 14) rfl ?_); refine Kd.R_lit (Kd.int .i64) _ 3 ?hg (N := 14) ?hd (xs := ([a1] : List Int)) (inner := [.int .i64 a1]) (ok := fun _ => True) (okp := fun _ => True) ?hr ?hp (fun _ hk => hk) trivial (Below.refl _ _) (Nat.le_refl _) (by simp) ?_; (case hd => rfl); (case hg => rfl); (case hr => first | (go_simp; done) | (go_simp; rfl)); (case hp => exact (Reps.one (show Kd.M (Kd.int .i64) _ _ _ a1 [.int .i64 a1] from rfl) (Reps.none _ _))); intro v180103 w33 ho34 hb hg_ hnew_; clear hg_ hnew_; (first | rw [← Ny180102.out] at ho34 | (simp only [Int.reduceToNat] at ho34; rw [← Ny180102.out] at ho34)); have n0_ := Aside0.mk (Kd.R_lower ho34 (below_size (by repeat (first | (with_reducible first | exact HB.out | apply below_alloc | apply pw_below_drewN | apply below_drew1 | refine below_set ?_ GE180101.out) | exact HB.out)))); have n1_ := Aside0.mk (blk_below (g := gb180101) (o := .cells #[.int .i64 a0_0, .int .i64 a0_1, .int .i64 a0_2, .slice A0_3 l0_3.length c0_3] 32 (0, 0)) (by (with_reducible repeat (first | refine blk_drewN ?_ _ | refine blk_drew ?_ | refine blk_alloc ?_ _)); exact BK180101.out) hb); have n2_ := Aside0.mk (below_step (by repeat (first | (with_reducible first | exact HB.out | apply below_alloc | apply pw_below_drewN | apply below_drew1 | refine below_set ?_ GE180101.out) | exact HB.out)) hb); clear BK180101; clear HB; have HO180104 := n0_; have BK180101 := n1_; have HB := n2_; clear n0_ n1_ n2_; clear hb ho34; obtain ⟨Ao35, co35, eo35⟩ := Kd.R_slice HO180104.out; subst eo35) | ((with_reducible refine gate_callee (f := 158) rfl ?_); refine goesL_ (some 15) rfl rfl Try.func158 (by kernel_rfl) rfl #[.agg #[.int .i64 a0_0, .int .i64 a0_1, .int .i64 a0_2, .slice A0_3 l0_3.length c0_3], .int .i64 a2, .int .i64 20, .slice Ao35 y180102.length co35] rfl (by (try simp only [List.map_toArray, List.map_cons, List.map_nil]); first | done | rfl | (simp only [List.length_drop, List.length_take]; rfl)) ?_; (with_reducible refine (impl_isThrown.calls k a0_0 a0_1 a0_2 _ _ l0_3 a2 20 _ _ y180102 false _ ?side1 ?side2 ?side3 ?side4 A4.out).mono ?_); (case side1 => repeat (first | exact (Kd.C_below HR0_3.out HB.out) | (with_reducible refine Kd.C_alloc ?_ _) | (with_reducible refine Kd.C_drewN ?_ _) | (with_reducible refine Kd.C_drew ?_))); (case side2 => exact HC0_3.out); (case side3 => repeat (first | exact (Kd.R_reads' HO180104.out).2.2 | (with_reducible refine Kd.C_alloc ?_ _) | (with_reducible refine Kd.C_drewN ?_ _) | (with_reducible refine Kd.C_drew ?_))); (case side4 => exact (Kd.R_reads' HO180104.out).2.1); rintro e w36 ⟨rfl, hb⟩; refine ⟨_, rfl, ?_⟩; have n0_ := Aside0.mk (Kd.R_below (by (with_reducible repeat (first | apply Kd.R_alloc | apply Kd.R_drewN | apply Kd.R_drew)); exact HO180104.out) hb); have n1_ := Aside0.mk (blk_below (g := gb180101) (o := .cells #[.int .i64 a0_0, .int .i64 a0_1, .int .i64 a0_2, .slice A0_3 l0_3.length c0_3] 32 (0, 0)) (by (with_reducible repeat (first | refine blk_drewN ?_ _ | refine blk_drew ?_ | refine blk_alloc ?_ _)); exact BK180101.out) hb); have n2_ := Aside0.mk (below_step (by repeat (first | (with_reducible first | exact HB.out | apply below_alloc | apply pw_below_drewN | apply below_drew1 | refine below_set ?_ GE180101.out) | exact HB.out)) hb); clear HO180104; clear BK180101; clear HB; have HO180104 := n0_; have BK180101 := n1_; have HB := n2_; clear n0_ n1_ n2_; (try clear hb); (try clear hb2); (try clear hk); (try clear hi)))
    go_ret2
    exact ⟨_, by first | rfl | (simp [errW_none, errW_some] <;> rfl) | (simp [*, errW_none, errW_some] <;> rfl), by first | exact Kd.R_nil _ _ _ _ _ | exact Kd.N_nil _ _ _ _ _ | exact Kd.V_nil _ _ _ _ _ | exact Kd.Q_nil _ _ _ _ _ | exact Kd.S_nil _ _ _ _ _, by repeat (first | (with_reducible first | exact HB.out | apply below_alloc | apply pw_below_drewN | apply below_drew1 | refine below_set ?_ GE180101.out) | exact HB.out)⟩

end Go.Proofs.Ytkobjjadojpjfaa.Pr
