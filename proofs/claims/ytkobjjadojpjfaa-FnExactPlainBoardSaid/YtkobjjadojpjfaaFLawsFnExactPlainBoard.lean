-- A text of the machine side, written by wip/gen.py of this repo out of the translation. Not trusted: Lean checks it.
import Derived.Test.YtkobjjadojpjfaaF0
import Derived.Test.YtkobjjadojpjfaaFGA
import Derived.Test.YtkobjjadojpjfaaFImplPlainBoard
import Derived.Test.YtkobjjadojpjfaaFSpecPlainBoard
namespace Go.Proofs.Ytkobjjadojpjfaa.Pr
open Go.RowKit Go.Proofs.YtkobjjadojpjfaaW.PrintWords Go.Proofs.YtkobjjadojpjfaaW.PrintLast Go.Proofs.YtkobjjadojpjfaaW.PrintMore
attribute [local go_sem] max2_int min2_int max_two min_two max_three min_three max_four min_four   -- for this text's walks alone
set_option linter.unusedVariables false
set_option linter.unusedSimpArgs false

/-! ### laws_FnExactPlainBoard: function 5 -/
mutual
def laws_FnExactPlainBoard.j0 : Nat → Int → Int → Int → Bool → Bool → Int → Int → Int → List (S27) → Int → Int → Int → List (S27) → Option (Bool)
  | 0, _, _, _, _, _, _, _, _, _, _, _, _, _ => none
  | k + 1, x0, x1, x2, x8, x37, x10109000, x10109001, x10109002, x10109003, x10117000, x10117001, x10117002, x10117003 => if x37 = true then (some false) else ((laws_markBoard.f k x10117000 x10117001 x10117002 x10117003 1).bind fun bt10118 => ((laws_heldBoard.f k x10117000 x10117001 x10117002 bt10118.2 1).bind fun t10120 => (if t10120 < 0 then (some false) else (if t10120 = bt10118.1 then ((impl_PlainBoard.f k x0 x1 x2).bind fun bt10121 => ((laws_eqBoard.f k bt10121.1 bt10121.2.1 bt10121.2.2.1 bt10121.2.2.2.1 x10109000 x10109001 x10109002 x10109003).bind fun t10129 => (if t10129 = true then (laws_FnExactPlainBoard.j1 k bt10118.1 (bt10121.2.2.2.2 != x8) x10117000 x10117001 x10117002 bt10118.2) else (laws_FnExactPlainBoard.j1 k bt10118.1 true x10117000 x10117001 x10117002 bt10118.2)))) else (some false)))))
def laws_FnExactPlainBoard.j1 : Nat → Int → Bool → Int → Int → Int → List (S27) → Option (Bool)
  | 0, _, _, _, _, _, _ => none
  | k + 1, x11, x64, x10117000, x10117001, x10117002, x10117003 => if x64 = true then (some false) else ((laws_heldBoard.f k x10117000 x10117001 x10117002 x10117003 1).bind fun t10130 => (if t10130 < 0 then (some false) else (if t10130 = x11 then (some true) else (some false))))
end
def laws_FnExactPlainBoard.f (k : Nat) (a0 : Int) (a1 : Int) (a2 : Int) : Option (Bool) := (spec_PlainBoard.f k a0 a1 a2).bind fun bt10101 => ((impl_PlainBoard.f k a0 a1 a2).bind fun bt10109 => ((laws_eqBoard.f k bt10109.1 bt10109.2.1 bt10109.2.2.1 bt10109.2.2.2.1 bt10101.1 bt10101.2.1 bt10101.2.2.1 bt10101.2.2.2.1).bind fun t10117 => (if t10117 = true then (laws_FnExactPlainBoard.j0 k a0 a1 a2 bt10101.2.2.2.2 (bt10109.2.2.2.2 != bt10101.2.2.2.2) bt10101.1 bt10101.2.1 bt10101.2.2.1 bt10101.2.2.2.1 bt10109.1 bt10109.2.1 bt10109.2.2.1 bt10109.2.2.2.1) else (laws_FnExactPlainBoard.j0 k a0 a1 a2 bt10101.2.2.2.2 true bt10101.1 bt10101.2.1 bt10101.2.2.1 bt10101.2.2.2.1 bt10109.1 bt10109.2.1 bt10109.2.2.1 bt10109.2.2.2.1))))
theorem laws_FnExactPlainBoard.mono_l : ∀ k, (∀ y0 y1 y2 y3 y4 y5 y6 y7 y8 y9 y10 y11 y12, LeO (laws_FnExactPlainBoard.j0 k y0 y1 y2 y3 y4 y5 y6 y7 y8 y9 y10 y11 y12) (laws_FnExactPlainBoard.j0 (k + 1) y0 y1 y2 y3 y4 y5 y6 y7 y8 y9 y10 y11 y12)) ∧ (∀ y0 y1 y2 y3 y4 y5, LeO (laws_FnExactPlainBoard.j1 k y0 y1 y2 y3 y4 y5) (laws_FnExactPlainBoard.j1 (k + 1) y0 y1 y2 y3 y4 y5))
  | 0 => ⟨fun _ _ _ _ _ _ _ _ _ _ _ _ _ r h => by simp [laws_FnExactPlainBoard.j0] at h, fun _ _ _ _ _ _ r h => by simp [laws_FnExactPlainBoard.j1] at h⟩
  | k + 1 => by
    obtain ⟨ih0, ih1⟩ := laws_FnExactPlainBoard.mono_l k
    refine ⟨?_, ?_⟩
    · intro y0 y1 y2 y3 y4 y5 y6 y7 y8 y9 y10 y11 y12
      unfold laws_FnExactPlainBoard.j0
      repeat' first
      | (with_reducible exact ih0 _ _ _ _ _ _ _ _ _ _ _ _ _)
      | (with_reducible exact ih1 _ _ _ _ _ _)
      | (with_reducible exact impl_PlainBoard.mono _ _ _ _)
      | (with_reducible exact laws_eqBoard.mono _ _ _ _ _ _ _ _ _)
      | (with_reducible exact laws_heldBoard.mono _ _ _ _ _ _)
      | (with_reducible exact laws_markBoard.mono _ _ _ _ _ _)
      | (with_reducible exact spec_PlainBoard.mono _ _ _ _)
      | (with_reducible exact LeO.refl _)
      | (with_reducible exact LeO.none _)
      | (with_reducible refine LeO.ite ?_ ?_)
      | (with_reducible refine LeO.bind ?_ (fun _ => ?_))
      | exact ih0 _ _ _ _ _ _ _ _ _ _ _ _ _
      | exact ih1 _ _ _ _ _ _
      | exact impl_PlainBoard.mono _ _ _ _
      | exact laws_eqBoard.mono _ _ _ _ _ _ _ _ _
      | exact laws_heldBoard.mono _ _ _ _ _ _
      | exact laws_markBoard.mono _ _ _ _ _ _
      | exact spec_PlainBoard.mono _ _ _ _
      | exact LeO.none _
      | refine LeO.ite ?_ ?_
      | refine LeO.bind ?_ (fun _ => ?_)
    · intro y0 y1 y2 y3 y4 y5
      unfold laws_FnExactPlainBoard.j1
      repeat' first
      | (with_reducible exact ih0 _ _ _ _ _ _ _ _ _ _ _ _ _)
      | (with_reducible exact ih1 _ _ _ _ _ _)
      | (with_reducible exact impl_PlainBoard.mono _ _ _ _)
      | (with_reducible exact laws_eqBoard.mono _ _ _ _ _ _ _ _ _)
      | (with_reducible exact laws_heldBoard.mono _ _ _ _ _ _)
      | (with_reducible exact laws_markBoard.mono _ _ _ _ _ _)
      | (with_reducible exact spec_PlainBoard.mono _ _ _ _)
      | (with_reducible exact LeO.refl _)
      | (with_reducible exact LeO.none _)
      | (with_reducible refine LeO.ite ?_ ?_)
      | (with_reducible refine LeO.bind ?_ (fun _ => ?_))
      | exact ih0 _ _ _ _ _ _ _ _ _ _ _ _ _
      | exact ih1 _ _ _ _ _ _
      | exact impl_PlainBoard.mono _ _ _ _
      | exact laws_eqBoard.mono _ _ _ _ _ _ _ _ _
      | exact laws_heldBoard.mono _ _ _ _ _ _
      | exact laws_markBoard.mono _ _ _ _ _ _
      | exact spec_PlainBoard.mono _ _ _ _
      | exact LeO.none _
      | refine LeO.ite ?_ ?_
      | refine LeO.bind ?_ (fun _ => ?_)
theorem laws_FnExactPlainBoard.mono : ∀ a0 a1 a2 k, LeO (laws_FnExactPlainBoard.f k a0 a1 a2) (laws_FnExactPlainBoard.f (k + 1) a0 a1 a2) := by
  intro a0 a1 a2 k
  obtain ⟨ih0, ih1⟩ := laws_FnExactPlainBoard.mono_l k
  unfold laws_FnExactPlainBoard.f
  repeat' first
      | (with_reducible exact ih0 _ _ _ _ _ _ _ _ _ _ _ _ _)
      | (with_reducible exact ih1 _ _ _ _ _ _)
      | (with_reducible exact impl_PlainBoard.mono _ _ _ _)
      | (with_reducible exact laws_eqBoard.mono _ _ _ _ _ _ _ _ _)
      | (with_reducible exact laws_heldBoard.mono _ _ _ _ _ _)
      | (with_reducible exact laws_markBoard.mono _ _ _ _ _ _)
      | (with_reducible exact spec_PlainBoard.mono _ _ _ _)
      | (with_reducible exact LeO.refl _)
      | (with_reducible exact LeO.none _)
      | (with_reducible refine LeO.ite ?_ ?_)
      | (with_reducible refine LeO.bind ?_ (fun _ => ?_))
      | exact ih0 _ _ _ _ _ _ _ _ _ _ _ _ _
      | exact ih1 _ _ _ _ _ _
      | exact impl_PlainBoard.mono _ _ _ _
      | exact laws_eqBoard.mono _ _ _ _ _ _ _ _ _
      | exact laws_heldBoard.mono _ _ _ _ _ _
      | exact laws_markBoard.mono _ _ _ _ _ _
      | exact spec_PlainBoard.mono _ _ _ _
      | exact LeO.none _
      | refine LeO.ite ?_ ?_
      | refine LeO.bind ?_ (fun _ => ?_)
set_option maxHeartbeats 8000000 in
set_option maxRecDepth 100000 in
theorem laws_FnExactPlainBoard.calls (k : Nat) (a0 : Int) (a1 : Int) (a2 : Int) (r : Bool) (w : World) (h : laws_FnExactPlainBoard.f k a0 a1 a2 = some r) :
    Calls Try.prog 5 #[.int .i64 a0, .int .i64 a1, .int .i64 a2] w fun e w' => e = .returned (.bool r) ∧ Below w.heap.size w w' := by
  have hu32 := Try.underlying32
  have HB := Aside0.mk (Below.refl w.heap.size w)
  have H : ((spec_PlainBoard.f k a0 a1 a2).bind fun bt10101 => ((impl_PlainBoard.f k a0 a1 a2).bind fun bt10109 => ((laws_eqBoard.f k bt10109.1 bt10109.2.1 bt10109.2.2.1 bt10109.2.2.2.1 bt10101.1 bt10101.2.1 bt10101.2.2.1 bt10101.2.2.2.1).bind fun t10117 => (if t10117 = true then (laws_FnExactPlainBoard.j0 k a0 a1 a2 bt10101.2.2.2.2 (bt10109.2.2.2.2 != bt10101.2.2.2.2) bt10101.1 bt10101.2.1 bt10101.2.2.1 bt10101.2.2.2.1 bt10109.1 bt10109.2.1 bt10109.2.2.1 bt10109.2.2.2.1) else (laws_FnExactPlainBoard.j0 k a0 a1 a2 bt10101.2.2.2.2 true bt10101.1 bt10101.2.1 bt10101.2.2.1 bt10101.2.2.2.1 bt10109.1 bt10109.2.1 bt10109.2.2.1 bt10109.2.2.2.1))))) = some r := h
  clear h
  replace H := Option.bind_eq_some_iff.mp H
  obtain ⟨⟨t10101, t10102, t10103, t10104, t10107⟩, A40, H⟩ := H
  replace H : ((impl_PlainBoard.f k a0 a1 a2).bind fun bt10109 => ((laws_eqBoard.f k bt10109.1 bt10109.2.1 bt10109.2.2.1 bt10109.2.2.2.1 t10101 t10102 t10103 t10104).bind fun t10117 => (if t10117 = true then (laws_FnExactPlainBoard.j0 k a0 a1 a2 t10107 (bt10109.2.2.2.2 != t10107) t10101 t10102 t10103 t10104 bt10109.1 bt10109.2.1 bt10109.2.2.1 bt10109.2.2.2.1) else (laws_FnExactPlainBoard.j0 k a0 a1 a2 t10107 true t10101 t10102 t10103 t10104 bt10109.1 bt10109.2.1 bt10109.2.2.1 bt10109.2.2.2.1)))) = some r := H
  have A4 := Aside0.mk A40
  clear A40
  replace H := Option.bind_eq_some_iff.mp H
  obtain ⟨⟨t10109, t10110, t10111, t10112, t10115⟩, A50, H⟩ := H
  replace H : ((laws_eqBoard.f k t10109 t10110 t10111 t10112 t10101 t10102 t10103 t10104).bind fun t10117 => (if t10117 = true then (laws_FnExactPlainBoard.j0 k a0 a1 a2 t10107 (t10115 != t10107) t10101 t10102 t10103 t10104 t10109 t10110 t10111 t10112) else (laws_FnExactPlainBoard.j0 k a0 a1 a2 t10107 true t10101 t10102 t10103 t10104 t10109 t10110 t10111 t10112))) = some r := H
  have A5 := Aside0.mk A50
  clear A50
  have HC6 := Aside0.mk H
  clear H
  go_enter Try.func5, Try.ntmps5
  go_upto_region 3 with (first | ((with_reducible refine gate_callee (f := 45) rfl ?_); refine goesL_ (some 19) rfl rfl Try.func45 (by kernel_rfl) rfl #[.int .i64 a0, .int .i64 a1, .int .i64 a2] rfl (by (try simp only [List.map_toArray, List.map_cons, List.map_nil]); first | done | rfl | (simp only [List.length_drop, List.length_take]; rfl)) ?_; (with_reducible refine (spec_PlainBoard.calls k a0 a1 a2 t10101 t10102 t10103 t10104 t10107 _ A4.out).mono ?_); rintro e w7 ⟨v10105, rfl, ho0, hb⟩; refine ⟨_, rfl, ?_⟩; have n0_ := Aside0.mk (Kd.R_lower ho0 (below_size (by repeat (first | (with_reducible first | exact HB.out | apply below_alloc | apply pw_below_drewN | apply below_drew1) | exact HB.out)))); have n1_ := Aside0.mk (below_step (by repeat (first | (with_reducible first | exact HB.out | apply below_alloc | apply pw_below_drewN | apply below_drew1) | exact HB.out)) hb); clear HB; have HO10106 := n0_; have HB := n1_; clear n0_ n1_; (try clear hb); (try clear hb2); (try clear hk); (try clear hi); (try clear ho0)) | ((with_reducible refine gate_dst (N := 7) rfl ?_); refine box_event ?hg (N := 7) ?hd (cs := #[.int .i64 0, .int .i64 0, .int .i64 0, .slice none 0 0]) (t := 32) ?hr ?_; (case hd => rfl); (case hg => rfl); (case hr => first | (go_simp; done) | (go_simp; rfl)); intro gb10108 hg w8 hbox hb; have n0_ := Aside0.mk (Kd.R_below (by (with_reducible repeat (first | apply Kd.R_alloc | apply Kd.R_drewN | apply Kd.R_drew)); exact HO10106.out) hb); have n1_ := Aside0.mk (below_step (by repeat (first | (with_reducible first | exact HB.out | apply below_alloc | apply pw_below_drewN | apply below_drew1) | exact HB.out)) hb); have n2_ := Aside0.mk (hbox); have n3_ := Aside0.mk ((by rw [hg]; exact (below_size (by repeat (first | (with_reducible first | exact HB.out | apply below_alloc | apply pw_below_drewN | apply below_drew1) | exact HB.out))) : w.heap.size ≤ gb10108)); have n4_ := Aside0.mk ((by rw [hg]; exact (below_size (by repeat (first | (with_reducible first | exact HB.out | apply below_alloc | apply pw_below_drewN | apply below_drew1) | exact HB.out))) : w.heap.size ≤ gb10108)); clear HO10106; clear HB; have HO10106 := n0_; have HB := n1_; have BK10108 := n2_; have GW10108 := n3_; have GE10108 := n4_; clear n0_ n1_ n2_ n3_ n4_; clear hb hbox hg; have hcz9_0 : w8.cell? ⟨gb10108, 0, none⟩ = some (.int .i64 0) := (blk_cell BK10108.out 0).trans rfl; have hcz9_1 : w8.cell? ⟨gb10108, 1, none⟩ = some (.int .i64 0) := (blk_cell BK10108.out 1).trans rfl; have hcz9_2 : w8.cell? ⟨gb10108, 2, none⟩ = some (.int .i64 0) := (blk_cell BK10108.out 2).trans rfl; have hcz9_3 : w8.cell? ⟨gb10108, 3, none⟩ = some (.slice none 0 0) := (blk_cell BK10108.out 3).trans rfl; have hfz9_0 := blk_frozen BK10108.out 0; have hfz9_1 := blk_frozen BK10108.out 1; have hfz9_2 := blk_frozen BK10108.out 2; have hfz9_3 := blk_frozen BK10108.out 3; obtain ⟨Ao10, co10, eo10⟩ := Kd.R_slice HO10106.out; subst eo10) | ((with_reducible refine gate_callee (f := 46) rfl ?_); refine goesL_ (some 26) rfl rfl Try.func46 (by kernel_rfl) rfl #[.int .i64 a0, .int .i64 a1, .int .i64 a2] rfl (by (try simp only [List.map_toArray, List.map_cons, List.map_nil]); first | done | rfl | (simp only [List.length_drop, List.length_take]; rfl)) ?_; (with_reducible refine (impl_PlainBoard.calls k a0 a1 a2 t10109 t10110 t10111 t10112 t10115 _ A5.out).mono ?_); rintro e w11 ⟨v10113, rfl, ho0, hb⟩; refine ⟨_, rfl, ?_⟩; have n0_ := Aside0.mk (Kd.R_elder' (by (with_reducible repeat (first | apply Kd.R_alloc | apply Kd.R_drewN | apply Kd.R_drew)); exact (Kd.R_mono (Kd.R_far (p := ⟨gb10108, 3, none⟩) (Kd.R_far (p := ⟨gb10108, 2, none⟩) (Kd.R_far (p := ⟨gb10108, 1, none⟩) (Kd.R_far (p := ⟨gb10108, 0, none⟩) (Kd.R_types HO10106.out BK10108.out (by decide)) (fun _ hk => hk.2) (.int .i64 t10101)) (fun _ hk => hk.2) (.int .i64 t10102)) (fun _ hk => hk.2) (.int .i64 t10103)) (fun _ hk => hk.2) (.slice Ao10 t10104.length co10)) (fun _ h_ => h_.1))) (Kd.R_base ho0) hb); have n1_ := Aside0.mk (Kd.R_lower (Kd.R_new' ho0 (Kd.R_lt (by (with_reducible repeat (first | apply Kd.R_alloc | apply Kd.R_drewN | apply Kd.R_drew)); exact (Kd.R_mono (Kd.R_far (p := ⟨gb10108, 3, none⟩) (Kd.R_far (p := ⟨gb10108, 2, none⟩) (Kd.R_far (p := ⟨gb10108, 1, none⟩) (Kd.R_far (p := ⟨gb10108, 0, none⟩) (Kd.R_types HO10106.out BK10108.out (by decide)) (fun _ hk => hk.2) (.int .i64 t10101)) (fun _ hk => hk.2) (.int .i64 t10102)) (fun _ hk => hk.2) (.int .i64 t10103)) (fun _ hk => hk.2) (.slice Ao10 t10104.length co10)) (fun _ h_ => h_.1))))) (below_size (by repeat (first | (with_reducible first | exact HB.out | apply below_alloc | apply pw_below_drewN | apply below_drew1 | refine below_set ?_ GE10108.out) | exact HB.out)))); have n2_ := Aside0.mk (blk_below (g := gb10108) (o := .cells #[.int .i64 t10101, .int .i64 t10102, .int .i64 t10103, .slice Ao10 t10104.length co10] 32 (0, 0)) (by (with_reducible repeat (first | refine blk_drewN ?_ _ | refine blk_drew ?_ | refine blk_alloc ?_ _)); refine blk_put (cs := #[.int .i64 t10101, .int .i64 t10102, .int .i64 t10103, .slice none 0 0]) ?_ 3 _ rfl; (with_reducible repeat (first | refine blk_drewN ?_ _ | refine blk_drew ?_ | refine blk_alloc ?_ _)); refine blk_put (cs := #[.int .i64 t10101, .int .i64 t10102, .int .i64 0, .slice none 0 0]) ?_ 2 _ rfl; (with_reducible repeat (first | refine blk_drewN ?_ _ | refine blk_drew ?_ | refine blk_alloc ?_ _)); refine blk_put (cs := #[.int .i64 t10101, .int .i64 0, .int .i64 0, .slice none 0 0]) ?_ 1 _ rfl; (with_reducible repeat (first | refine blk_drewN ?_ _ | refine blk_drew ?_ | refine blk_alloc ?_ _)); refine blk_put (cs := #[.int .i64 0, .int .i64 0, .int .i64 0, .slice none 0 0]) ?_ 0 _ rfl; (with_reducible repeat (first | refine blk_drewN ?_ _ | refine blk_drew ?_ | refine blk_alloc ?_ _)); exact BK10108.out) hb); have n3_ := Aside0.mk (below_step (by repeat (first | (with_reducible first | exact HB.out | apply below_alloc | apply pw_below_drewN | apply below_drew1 | refine below_set ?_ GE10108.out) | exact HB.out)) hb); clear HO10106; clear BK10108; clear HB; have HO10106 := n0_; have HO10114 := n1_; have BK10108 := n2_; have HB := n3_; clear n0_ n1_ n2_ n3_; (try clear hb); (try clear hb2); (try clear hk); (try clear hi); (try clear ho0)) | ((with_reducible refine gate_dst (N := 9) rfl ?_); refine box_event ?hg (N := 9) ?hd (cs := #[.int .i64 0, .int .i64 0, .int .i64 0, .slice none 0 0]) (t := 32) ?hr ?_; (case hd => rfl); (case hg => rfl); (case hr => first | (go_simp; done) | (go_simp; rfl)); intro gb10116 hg w12 hbox hb; have n0_ := Aside0.mk (Kd.R_below (by (with_reducible repeat (first | apply Kd.R_alloc | apply Kd.R_drewN | apply Kd.R_drew)); exact HO10106.out) hb); have n1_ := Aside0.mk (Kd.R_below (by (with_reducible repeat (first | apply Kd.R_alloc | apply Kd.R_drewN | apply Kd.R_drew)); exact HO10114.out) hb); have n2_ := Aside0.mk (blk_below (g := gb10108) (o := .cells #[.int .i64 t10101, .int .i64 t10102, .int .i64 t10103, .slice Ao10 t10104.length co10] 32 (0, 0)) (by (with_reducible repeat (first | refine blk_drewN ?_ _ | refine blk_drew ?_ | refine blk_alloc ?_ _)); exact BK10108.out) hb); have n3_ := Aside0.mk (below_step (by repeat (first | (with_reducible first | exact HB.out | apply below_alloc | apply pw_below_drewN | apply below_drew1 | refine below_set ?_ GE10108.out) | exact HB.out)) hb); have n4_ := Aside0.mk (hbox); have n5_ := Aside0.mk ((by rw [hg]; exact (below_size (by repeat (first | (with_reducible first | exact HB.out | apply below_alloc | apply pw_below_drewN | apply below_drew1 | refine below_set ?_ GE10108.out) | exact HB.out))) : w.heap.size ≤ gb10116)); have n6_ := Aside0.mk ((by rw [hg]; exact (below_size (by repeat (first | (with_reducible first | exact HB.out | apply below_alloc | apply pw_below_drewN | apply below_drew1 | refine below_set ?_ GE10108.out) | exact HB.out))) : w.heap.size ≤ gb10116)); have n7_ := Aside0.mk ((by rw [hg]; exact Nat.ne_of_lt (blk_lt (g := gb10108) (o := .cells #[.int .i64 t10101, .int .i64 t10102, .int .i64 t10103, .slice Ao10 t10104.length co10] 32 (0, 0)) (by (with_reducible repeat (first | refine blk_drewN ?_ _ | refine blk_drew ?_ | refine blk_alloc ?_ _)); exact BK10108.out)) : gb10108 ≠ gb10116)); have n8_ := Aside0.mk ((by rw [hg]; exact Nat.ne_of_gt (blk_lt (g := gb10108) (o := .cells #[.int .i64 t10101, .int .i64 t10102, .int .i64 t10103, .slice Ao10 t10104.length co10] 32 (0, 0)) (by (with_reducible repeat (first | refine blk_drewN ?_ _ | refine blk_drew ?_ | refine blk_alloc ?_ _)); exact BK10108.out)) : gb10116 ≠ gb10108)); clear HO10106; clear HO10114; clear BK10108; clear HB; have HO10106 := n0_; have HO10114 := n1_; have BK10108 := n2_; have HB := n3_; have BK10116 := n4_; have GW10116 := n5_; have GE10116 := n6_; have NB10108_10116 := n7_; have NB10116_10108 := n8_; clear n0_ n1_ n2_ n3_ n4_ n5_ n6_ n7_ n8_; clear hb hbox hg; have hnb13 := NB10116_10108.out; have hnc13 := NB10108_10116.out; have hcz14_0 : w12.cell? ⟨gb10116, 0, none⟩ = some (.int .i64 0) := (blk_cell BK10116.out 0).trans rfl; have hcz14_1 : w12.cell? ⟨gb10116, 1, none⟩ = some (.int .i64 0) := (blk_cell BK10116.out 1).trans rfl; have hcz14_2 : w12.cell? ⟨gb10116, 2, none⟩ = some (.int .i64 0) := (blk_cell BK10116.out 2).trans rfl; have hcz14_3 : w12.cell? ⟨gb10116, 3, none⟩ = some (.slice none 0 0) := (blk_cell BK10116.out 3).trans rfl; have hfz14_0 := blk_frozen BK10116.out 0; have hfz14_1 := blk_frozen BK10116.out 1; have hfz14_2 := blk_frozen BK10116.out 2; have hfz14_3 := blk_frozen BK10116.out 3; obtain ⟨Ao15, co15, eo15⟩ := Kd.R_slice HO10114.out; subst eo15))
  (try simp only [Act.put, List.setIfInBounds_toArray, List.set_cons_zero, List.set_cons_succ])
  go_cut [37] (fun v37 wc => ∃ (kq : Nat) (x37_5 : Bool), v37 = .bool x37_5 ∧ Aside0 (laws_FnExactPlainBoard.j0 kq a0 a1 a2 t10107 x37_5 t10101 t10102 t10103 t10104 t10109 t10110 t10111 t10112 = some r) ∧ Aside0 (kq ≤ k) ∧ Aside0 (Kd.R k27 27 wc w.heap.size (fun k_ => some k_ ≠ ((.slice Ao15 t10112.length co15) : Value).ownBlock) (.slice Ao10 t10104.length co10) t10104) ∧ Aside0 (Kd.R k27 27 wc w.heap.size (fun k_ => some k_ ≠ ((.slice Ao10 t10104.length co10) : Value).ownBlock) (.slice Ao15 t10112.length co15) t10112) ∧ Aside0 (wc.heap[gb10108]? = some (.cells #[.int .i64 t10101, .int .i64 t10102, .int .i64 t10103, (.slice Ao10 t10104.length co10)] 32 (0, 0))) ∧ Aside0 (wc.heap[gb10116]? = some (.cells #[.int .i64 t10109, .int .i64 t10110, .int .i64 t10111, (.slice Ao15 t10112.length co15)] 32 (0, 0))) ∧ Aside0 (Below w.heap.size w wc))
  case first =>
    have H := HC6.out
    clear HC6
    replace H := Option.bind_eq_some_iff.mp H
    obtain ⟨t10117, A160, H⟩ := H
    replace H : (if t10117 = true then (laws_FnExactPlainBoard.j0 k a0 a1 a2 t10107 (t10115 != t10107) t10101 t10102 t10103 t10104 t10109 t10110 t10111 t10112) else (laws_FnExactPlainBoard.j0 k a0 a1 a2 t10107 true t10101 t10102 t10103 t10104 t10109 t10110 t10111 t10112)) = some r := H
    have A16 := Aside0.mk A160
    clear A160
    by_cases c17 : t10117 = true
    · subst c17
      have H1 : (laws_FnExactPlainBoard.j0 k a0 a1 a2 t10107 (t10115 != t10107) t10101 t10102 t10103 t10104 t10109 t10110 t10111 t10112) = some r := by rw [if_pos rfl] at H; exact H
      clear H
      have H := H1
      clear H1
      have H' := Aside0.mk H
      clear H
      have hnb18 := NB10116_10108.out
      have hnc18 := NB10108_10116.out
      have hcz19_0 : w12.cell? ⟨gb10116, 0, none⟩ = some (.int .i64 0) := (blk_cell BK10116.out 0).trans rfl
      have hcz19_1 : w12.cell? ⟨gb10116, 1, none⟩ = some (.int .i64 0) := (blk_cell BK10116.out 1).trans rfl
      have hcz19_2 : w12.cell? ⟨gb10116, 2, none⟩ = some (.int .i64 0) := (blk_cell BK10116.out 2).trans rfl
      have hcz19_3 : w12.cell? ⟨gb10116, 3, none⟩ = some (.slice none 0 0) := (blk_cell BK10116.out 3).trans rfl
      have hfz19_0 := blk_frozen BK10116.out 0
      have hfz19_1 := blk_frozen BK10116.out 1
      have hfz19_2 := blk_frozen BK10116.out 2
      have hfz19_3 := blk_frozen BK10116.out 3
      have hcz20_0 : w12.cell? ⟨gb10108, 0, none⟩ = some (.int .i64 t10101) := (blk_cell BK10108.out 0).trans rfl
      have hcz20_1 : w12.cell? ⟨gb10108, 1, none⟩ = some (.int .i64 t10102) := (blk_cell BK10108.out 1).trans rfl
      have hcz20_2 : w12.cell? ⟨gb10108, 2, none⟩ = some (.int .i64 t10103) := (blk_cell BK10108.out 2).trans rfl
      have hcz20_3 : w12.cell? ⟨gb10108, 3, none⟩ = some (.slice Ao10 t10104.length co10) := (blk_cell BK10108.out 3).trans rfl
      have hfz20_0 := blk_frozen BK10108.out 0
      have hfz20_1 := blk_frozen BK10108.out 1
      have hfz20_2 := blk_frozen BK10108.out 2
      have hfz20_3 := blk_frozen BK10108.out 3
      go_wp2_with (first | ((with_reducible refine gate_callee (f := 42) rfl ?_); refine goesL_ (some 31) rfl rfl Try.func42 (by kernel_rfl) rfl #[.agg #[.int .i64 t10109, .int .i64 t10110, .int .i64 t10111, .slice Ao15 t10112.length co15], .agg #[.int .i64 t10101, .int .i64 t10102, .int .i64 t10103, .slice Ao10 t10104.length co10]] rfl (by (try simp only [List.map_toArray, List.map_cons, List.map_nil]); first | done | rfl | (simp only [List.length_drop, List.length_take]; rfl)) ?_; (with_reducible refine (laws_eqBoard.calls k t10109 t10110 t10111 _ _ t10112 t10101 t10102 t10103 _ _ t10104 true _ ?side1 ?side2 ?side3 ?side4 A16.out).mono ?_); (case side1 => refine (Kd.R_reads' (e := 27) (base := w.heap.size) (ok := fun k_ => (True ∧ some k_ ≠ (.slice Ao10 t10104.length co10 : Value).ownBlock)) (n := t10112.length) (c := co15) ?_).2.2; exact (by (with_reducible repeat (first | apply Kd.R_alloc | apply Kd.R_drewN | apply Kd.R_drew)); exact (Kd.R_mono (Kd.R_far (p := ⟨gb10116, 3, none⟩) (Kd.R_far (p := ⟨gb10116, 2, none⟩) (Kd.R_far (p := ⟨gb10116, 1, none⟩) (Kd.R_far (p := ⟨gb10116, 0, none⟩) (Kd.R_types HO10114.out BK10116.out (by decide)) (fun _ hk => hk.2) (.int .i64 t10109)) (fun _ hk => hk.2) (.int .i64 t10110)) (fun _ hk => hk.2) (.int .i64 t10111)) (fun _ hk => hk.2) (.slice Ao15 t10112.length co15)) (fun _ h_ => h_.1)))); (case side2 => exact (Kd.R_reads' HO10114.out).2.1); (case side3 => refine (Kd.R_reads' (e := 27) (base := w.heap.size) (ok := fun k_ => (True ∧ some k_ ≠ (.slice Ao15 t10112.length co15 : Value).ownBlock)) (n := t10104.length) (c := co10) ?_).2.2; exact (by (with_reducible repeat (first | apply Kd.R_alloc | apply Kd.R_drewN | apply Kd.R_drew)); exact (Kd.R_mono (Kd.R_far (p := ⟨gb10116, 3, none⟩) (Kd.R_far (p := ⟨gb10116, 2, none⟩) (Kd.R_far (p := ⟨gb10116, 1, none⟩) (Kd.R_far (p := ⟨gb10116, 0, none⟩) (Kd.R_types HO10106.out BK10116.out (by decide)) (fun _ hk => hk.2) (.int .i64 t10109)) (fun _ hk => hk.2) (.int .i64 t10110)) (fun _ hk => hk.2) (.int .i64 t10111)) (fun _ hk => hk.2) (.slice Ao15 t10112.length co15)) (fun _ h_ => h_.1)))); (case side4 => exact (Kd.R_reads' HO10106.out).2.1); rintro e w21 ⟨rfl, hb⟩; refine ⟨_, rfl, ?_⟩; have n0_ := Aside0.mk (Kd.R_below (by (with_reducible repeat (first | apply Kd.R_alloc | apply Kd.R_drewN | apply Kd.R_drew)); exact (Kd.R_mono (Kd.R_far (p := ⟨gb10116, 3, none⟩) (Kd.R_far (p := ⟨gb10116, 2, none⟩) (Kd.R_far (p := ⟨gb10116, 1, none⟩) (Kd.R_far (p := ⟨gb10116, 0, none⟩) (Kd.R_types HO10106.out BK10116.out (by decide)) (fun _ hk => hk.2) (.int .i64 t10109)) (fun _ hk => hk.2) (.int .i64 t10110)) (fun _ hk => hk.2) (.int .i64 t10111)) (fun _ hk => hk.2) (.slice Ao15 t10112.length co15)) (fun _ h_ => h_.1))) hb); have n1_ := Aside0.mk (Kd.R_below (by (with_reducible repeat (first | apply Kd.R_alloc | apply Kd.R_drewN | apply Kd.R_drew)); exact (Kd.R_mono (Kd.R_far (p := ⟨gb10116, 3, none⟩) (Kd.R_far (p := ⟨gb10116, 2, none⟩) (Kd.R_far (p := ⟨gb10116, 1, none⟩) (Kd.R_far (p := ⟨gb10116, 0, none⟩) (Kd.R_types HO10114.out BK10116.out (by decide)) (fun _ hk => hk.2) (.int .i64 t10109)) (fun _ hk => hk.2) (.int .i64 t10110)) (fun _ hk => hk.2) (.int .i64 t10111)) (fun _ hk => hk.2) (.slice Ao15 t10112.length co15)) (fun _ h_ => h_.1))) hb); have n2_ := Aside0.mk (blk_below (g := gb10108) (o := .cells #[.int .i64 t10101, .int .i64 t10102, .int .i64 t10103, .slice Ao10 t10104.length co10] 32 (0, 0)) (by (with_reducible repeat (first | refine blk_drewN ?_ _ | refine blk_drew ?_ | refine blk_alloc ?_ _)); refine blk_far ?_ NB10108_10116.out _; (with_reducible repeat (first | refine blk_drewN ?_ _ | refine blk_drew ?_ | refine blk_alloc ?_ _)); refine blk_far ?_ NB10108_10116.out _; (with_reducible repeat (first | refine blk_drewN ?_ _ | refine blk_drew ?_ | refine blk_alloc ?_ _)); refine blk_far ?_ NB10108_10116.out _; (with_reducible repeat (first | refine blk_drewN ?_ _ | refine blk_drew ?_ | refine blk_alloc ?_ _)); refine blk_far ?_ NB10108_10116.out _; (with_reducible repeat (first | refine blk_drewN ?_ _ | refine blk_drew ?_ | refine blk_alloc ?_ _)); exact BK10108.out) hb); have n3_ := Aside0.mk (blk_below (g := gb10116) (o := .cells #[.int .i64 t10109, .int .i64 t10110, .int .i64 t10111, .slice Ao15 t10112.length co15] 32 (0, 0)) (by (with_reducible repeat (first | refine blk_drewN ?_ _ | refine blk_drew ?_ | refine blk_alloc ?_ _)); refine blk_put (cs := #[.int .i64 t10109, .int .i64 t10110, .int .i64 t10111, .slice none 0 0]) ?_ 3 _ rfl; (with_reducible repeat (first | refine blk_drewN ?_ _ | refine blk_drew ?_ | refine blk_alloc ?_ _)); refine blk_put (cs := #[.int .i64 t10109, .int .i64 t10110, .int .i64 0, .slice none 0 0]) ?_ 2 _ rfl; (with_reducible repeat (first | refine blk_drewN ?_ _ | refine blk_drew ?_ | refine blk_alloc ?_ _)); refine blk_put (cs := #[.int .i64 t10109, .int .i64 0, .int .i64 0, .slice none 0 0]) ?_ 1 _ rfl; (with_reducible repeat (first | refine blk_drewN ?_ _ | refine blk_drew ?_ | refine blk_alloc ?_ _)); refine blk_put (cs := #[.int .i64 0, .int .i64 0, .int .i64 0, .slice none 0 0]) ?_ 0 _ rfl; (with_reducible repeat (first | refine blk_drewN ?_ _ | refine blk_drew ?_ | refine blk_alloc ?_ _)); exact BK10116.out) hb); have n4_ := Aside0.mk (below_step (by repeat (first | (with_reducible first | exact HB.out | apply below_alloc | apply pw_below_drewN | apply below_drew1 | refine below_set ?_ GE10108.out | refine below_set ?_ GE10116.out) | exact HB.out)) hb); clear HO10106; clear HO10114; clear BK10108; clear BK10116; clear HB; have HO10106 := n0_; have HO10114 := n1_; have BK10108 := n2_; have BK10116 := n3_; have HB := n4_; clear n0_ n1_ n2_ n3_ n4_; (try clear hb); (try clear hb2); (try clear hk); (try clear hi)))
      go_meet
      case rel => exact ⟨_, ((t10115 != t10107)), (by first | rfl | (simp; done) | (simp [*]; done)), H', ⟨by first | omega | exact Nat.le_refl _⟩, ⟨by (with_reducible repeat (first | apply Kd.R_alloc | apply Kd.R_drewN | apply Kd.R_drew)); exact Kd.R_mono HO10106.out (fun _ hk => hk.2)⟩, ⟨by (with_reducible repeat (first | apply Kd.R_alloc | apply Kd.R_drewN | apply Kd.R_drew)); exact Kd.R_mono HO10114.out (fun _ hk => hk.2)⟩, ⟨by (with_reducible repeat (first | refine blk_drewN ?_ _ | refine blk_drew ?_ | refine blk_alloc ?_ _)); exact BK10108.out⟩, ⟨by (with_reducible repeat (first | refine blk_drewN ?_ _ | refine blk_drew ?_ | refine blk_alloc ?_ _)); exact BK10116.out⟩, ⟨by repeat (first | (with_reducible first | exact HB.out | apply below_alloc | apply pw_below_drewN | apply below_drew1 | refine below_set ?_ GE10108.out | refine below_set ?_ GE10116.out) | exact HB.out)⟩⟩
    · replace c17 := Bool.eq_false_iff.mpr c17
      subst c17
      have H1 : (laws_FnExactPlainBoard.j0 k a0 a1 a2 t10107 true t10101 t10102 t10103 t10104 t10109 t10110 t10111 t10112) = some r := by rw [if_neg (show ¬ (false = true) by decide)] at H; exact H
      clear H
      have H := H1
      clear H1
      have H' := Aside0.mk H
      clear H
      have hnb22 := NB10116_10108.out
      have hnc22 := NB10108_10116.out
      have hcz23_0 : w12.cell? ⟨gb10116, 0, none⟩ = some (.int .i64 0) := (blk_cell BK10116.out 0).trans rfl
      have hcz23_1 : w12.cell? ⟨gb10116, 1, none⟩ = some (.int .i64 0) := (blk_cell BK10116.out 1).trans rfl
      have hcz23_2 : w12.cell? ⟨gb10116, 2, none⟩ = some (.int .i64 0) := (blk_cell BK10116.out 2).trans rfl
      have hcz23_3 : w12.cell? ⟨gb10116, 3, none⟩ = some (.slice none 0 0) := (blk_cell BK10116.out 3).trans rfl
      have hfz23_0 := blk_frozen BK10116.out 0
      have hfz23_1 := blk_frozen BK10116.out 1
      have hfz23_2 := blk_frozen BK10116.out 2
      have hfz23_3 := blk_frozen BK10116.out 3
      have hcz24_0 : w12.cell? ⟨gb10108, 0, none⟩ = some (.int .i64 t10101) := (blk_cell BK10108.out 0).trans rfl
      have hcz24_1 : w12.cell? ⟨gb10108, 1, none⟩ = some (.int .i64 t10102) := (blk_cell BK10108.out 1).trans rfl
      have hcz24_2 : w12.cell? ⟨gb10108, 2, none⟩ = some (.int .i64 t10103) := (blk_cell BK10108.out 2).trans rfl
      have hcz24_3 : w12.cell? ⟨gb10108, 3, none⟩ = some (.slice Ao10 t10104.length co10) := (blk_cell BK10108.out 3).trans rfl
      have hfz24_0 := blk_frozen BK10108.out 0
      have hfz24_1 := blk_frozen BK10108.out 1
      have hfz24_2 := blk_frozen BK10108.out 2
      have hfz24_3 := blk_frozen BK10108.out 3
      go_wp2_with (first | ((with_reducible refine gate_callee (f := 42) rfl ?_); refine goesL_ (some 31) rfl rfl Try.func42 (by kernel_rfl) rfl #[.agg #[.int .i64 t10109, .int .i64 t10110, .int .i64 t10111, .slice Ao15 t10112.length co15], .agg #[.int .i64 t10101, .int .i64 t10102, .int .i64 t10103, .slice Ao10 t10104.length co10]] rfl (by (try simp only [List.map_toArray, List.map_cons, List.map_nil]); first | done | rfl | (simp only [List.length_drop, List.length_take]; rfl)) ?_; (with_reducible refine (laws_eqBoard.calls k t10109 t10110 t10111 _ _ t10112 t10101 t10102 t10103 _ _ t10104 false _ ?side1 ?side2 ?side3 ?side4 A16.out).mono ?_); (case side1 => refine (Kd.R_reads' (e := 27) (base := w.heap.size) (ok := fun k_ => (True ∧ some k_ ≠ (.slice Ao10 t10104.length co10 : Value).ownBlock)) (n := t10112.length) (c := co15) ?_).2.2; exact (by (with_reducible repeat (first | apply Kd.R_alloc | apply Kd.R_drewN | apply Kd.R_drew)); exact (Kd.R_mono (Kd.R_far (p := ⟨gb10116, 3, none⟩) (Kd.R_far (p := ⟨gb10116, 2, none⟩) (Kd.R_far (p := ⟨gb10116, 1, none⟩) (Kd.R_far (p := ⟨gb10116, 0, none⟩) (Kd.R_types HO10114.out BK10116.out (by decide)) (fun _ hk => hk.2) (.int .i64 t10109)) (fun _ hk => hk.2) (.int .i64 t10110)) (fun _ hk => hk.2) (.int .i64 t10111)) (fun _ hk => hk.2) (.slice Ao15 t10112.length co15)) (fun _ h_ => h_.1)))); (case side2 => exact (Kd.R_reads' HO10114.out).2.1); (case side3 => refine (Kd.R_reads' (e := 27) (base := w.heap.size) (ok := fun k_ => (True ∧ some k_ ≠ (.slice Ao15 t10112.length co15 : Value).ownBlock)) (n := t10104.length) (c := co10) ?_).2.2; exact (by (with_reducible repeat (first | apply Kd.R_alloc | apply Kd.R_drewN | apply Kd.R_drew)); exact (Kd.R_mono (Kd.R_far (p := ⟨gb10116, 3, none⟩) (Kd.R_far (p := ⟨gb10116, 2, none⟩) (Kd.R_far (p := ⟨gb10116, 1, none⟩) (Kd.R_far (p := ⟨gb10116, 0, none⟩) (Kd.R_types HO10106.out BK10116.out (by decide)) (fun _ hk => hk.2) (.int .i64 t10109)) (fun _ hk => hk.2) (.int .i64 t10110)) (fun _ hk => hk.2) (.int .i64 t10111)) (fun _ hk => hk.2) (.slice Ao15 t10112.length co15)) (fun _ h_ => h_.1)))); (case side4 => exact (Kd.R_reads' HO10106.out).2.1); rintro e w25 ⟨rfl, hb⟩; refine ⟨_, rfl, ?_⟩; have n0_ := Aside0.mk (Kd.R_below (by (with_reducible repeat (first | apply Kd.R_alloc | apply Kd.R_drewN | apply Kd.R_drew)); exact (Kd.R_mono (Kd.R_far (p := ⟨gb10116, 3, none⟩) (Kd.R_far (p := ⟨gb10116, 2, none⟩) (Kd.R_far (p := ⟨gb10116, 1, none⟩) (Kd.R_far (p := ⟨gb10116, 0, none⟩) (Kd.R_types HO10106.out BK10116.out (by decide)) (fun _ hk => hk.2) (.int .i64 t10109)) (fun _ hk => hk.2) (.int .i64 t10110)) (fun _ hk => hk.2) (.int .i64 t10111)) (fun _ hk => hk.2) (.slice Ao15 t10112.length co15)) (fun _ h_ => h_.1))) hb); have n1_ := Aside0.mk (Kd.R_below (by (with_reducible repeat (first | apply Kd.R_alloc | apply Kd.R_drewN | apply Kd.R_drew)); exact (Kd.R_mono (Kd.R_far (p := ⟨gb10116, 3, none⟩) (Kd.R_far (p := ⟨gb10116, 2, none⟩) (Kd.R_far (p := ⟨gb10116, 1, none⟩) (Kd.R_far (p := ⟨gb10116, 0, none⟩) (Kd.R_types HO10114.out BK10116.out (by decide)) (fun _ hk => hk.2) (.int .i64 t10109)) (fun _ hk => hk.2) (.int .i64 t10110)) (fun _ hk => hk.2) (.int .i64 t10111)) (fun _ hk => hk.2) (.slice Ao15 t10112.length co15)) (fun _ h_ => h_.1))) hb); have n2_ := Aside0.mk (blk_below (g := gb10108) (o := .cells #[.int .i64 t10101, .int .i64 t10102, .int .i64 t10103, .slice Ao10 t10104.length co10] 32 (0, 0)) (by (with_reducible repeat (first | refine blk_drewN ?_ _ | refine blk_drew ?_ | refine blk_alloc ?_ _)); refine blk_far ?_ NB10108_10116.out _; (with_reducible repeat (first | refine blk_drewN ?_ _ | refine blk_drew ?_ | refine blk_alloc ?_ _)); refine blk_far ?_ NB10108_10116.out _; (with_reducible repeat (first | refine blk_drewN ?_ _ | refine blk_drew ?_ | refine blk_alloc ?_ _)); refine blk_far ?_ NB10108_10116.out _; (with_reducible repeat (first | refine blk_drewN ?_ _ | refine blk_drew ?_ | refine blk_alloc ?_ _)); refine blk_far ?_ NB10108_10116.out _; (with_reducible repeat (first | refine blk_drewN ?_ _ | refine blk_drew ?_ | refine blk_alloc ?_ _)); exact BK10108.out) hb); have n3_ := Aside0.mk (blk_below (g := gb10116) (o := .cells #[.int .i64 t10109, .int .i64 t10110, .int .i64 t10111, .slice Ao15 t10112.length co15] 32 (0, 0)) (by (with_reducible repeat (first | refine blk_drewN ?_ _ | refine blk_drew ?_ | refine blk_alloc ?_ _)); refine blk_put (cs := #[.int .i64 t10109, .int .i64 t10110, .int .i64 t10111, .slice none 0 0]) ?_ 3 _ rfl; (with_reducible repeat (first | refine blk_drewN ?_ _ | refine blk_drew ?_ | refine blk_alloc ?_ _)); refine blk_put (cs := #[.int .i64 t10109, .int .i64 t10110, .int .i64 0, .slice none 0 0]) ?_ 2 _ rfl; (with_reducible repeat (first | refine blk_drewN ?_ _ | refine blk_drew ?_ | refine blk_alloc ?_ _)); refine blk_put (cs := #[.int .i64 t10109, .int .i64 0, .int .i64 0, .slice none 0 0]) ?_ 1 _ rfl; (with_reducible repeat (first | refine blk_drewN ?_ _ | refine blk_drew ?_ | refine blk_alloc ?_ _)); refine blk_put (cs := #[.int .i64 0, .int .i64 0, .int .i64 0, .slice none 0 0]) ?_ 0 _ rfl; (with_reducible repeat (first | refine blk_drewN ?_ _ | refine blk_drew ?_ | refine blk_alloc ?_ _)); exact BK10116.out) hb); have n4_ := Aside0.mk (below_step (by repeat (first | (with_reducible first | exact HB.out | apply below_alloc | apply pw_below_drewN | apply below_drew1 | refine below_set ?_ GE10108.out | refine below_set ?_ GE10116.out) | exact HB.out)) hb); clear HO10106; clear HO10114; clear BK10108; clear BK10116; clear HB; have HO10106 := n0_; have HO10114 := n1_; have BK10108 := n2_; have BK10116 := n3_; have HB := n4_; clear n0_ n1_ n2_ n3_ n4_; (try clear hb); (try clear hb2); (try clear hk); (try clear hi)))
      go_meet
      case rel => exact ⟨_, (true), (by first | rfl | (simp; done) | (simp [*]; done)), H', ⟨by first | omega | exact Nat.le_refl _⟩, ⟨by (with_reducible repeat (first | apply Kd.R_alloc | apply Kd.R_drewN | apply Kd.R_drew)); exact Kd.R_mono HO10106.out (fun _ hk => hk.2)⟩, ⟨by (with_reducible repeat (first | apply Kd.R_alloc | apply Kd.R_drewN | apply Kd.R_drew)); exact Kd.R_mono HO10114.out (fun _ hk => hk.2)⟩, ⟨by (with_reducible repeat (first | refine blk_drewN ?_ _ | refine blk_drew ?_ | refine blk_alloc ?_ _)); exact BK10108.out⟩, ⟨by (with_reducible repeat (first | refine blk_drewN ?_ _ | refine blk_drew ?_ | refine blk_alloc ?_ _)); exact BK10116.out⟩, ⟨by repeat (first | (with_reducible first | exact HB.out | apply below_alloc | apply pw_below_drewN | apply below_drew1 | refine below_set ?_ GE10108.out | refine below_set ?_ GE10116.out) | exact HB.out)⟩⟩
  case rest =>
    clear HC6
    try clear c1
    try clear c2
    try clear p2
    try clear c4
    try clear c5
    try clear c13
    try clear c17
    try clear c18
    try clear c22
    try clear hcz14_0
    try clear hcz14_1
    try clear hcz14_2
    try clear hcz14_3
    try clear hcz19_0
    try clear hcz19_1
    try clear hcz19_2
    try clear hcz19_3
    try clear hcz20_0
    try clear hcz20_1
    try clear hcz20_2
    try clear hcz20_3
    try clear hcz23_0
    try clear hcz23_1
    try clear hcz23_2
    try clear hcz23_3
    try clear hcz24_0
    try clear hcz24_1
    try clear hcz24_2
    try clear hcz24_3
    try clear hcz9_0
    try clear hcz9_1
    try clear hcz9_2
    try clear hcz9_3
    try clear hfz14_0
    try clear hfz14_1
    try clear hfz14_2
    try clear hfz14_3
    try clear hfz19_0
    try clear hfz19_1
    try clear hfz19_2
    try clear hfz19_3
    try clear hfz20_0
    try clear hfz20_1
    try clear hfz20_2
    try clear hfz20_3
    try clear hfz23_0
    try clear hfz23_1
    try clear hfz23_2
    try clear hfz23_3
    try clear hfz24_0
    try clear hfz24_1
    try clear hfz24_2
    try clear hfz24_3
    try clear hfz9_0
    try clear hfz9_1
    try clear hfz9_2
    try clear hfz9_3
    obtain ⟨kq, x37_5, rfl, HA, HJ5, HO_10109003, HO_10117003, BK10108, BK10116, HB⟩ := hcut
    cases kq with
    | zero => exact absurd HA.out (by simp [laws_FnExactPlainBoard.j0])
    | succ kj5 =>
      have H := HA.out
      clear HA
      simp only [laws_FnExactPlainBoard.j0] at H
      by_cases c26 : x37_5 = true
      · subst c26
        have H1 : (some false) = some r := by rw [if_pos rfl] at H; exact H
        clear H
        have H := H1
        clear H1
        obtain rfl := Option.some.inj H
        go_wp2
        go_ret
        exact ⟨by first | rfl | (simp [errW_none, errW_some] <;> rfl) | (simp [*, errW_none, errW_some] <;> rfl), by repeat (first | (with_reducible first | exact HB.out | apply below_alloc | apply pw_below_drewN | apply below_drew1 | refine below_set ?_ GE10108.out | refine below_set ?_ GE10116.out) | exact HB.out)⟩
      · replace c26 := Bool.eq_false_iff.mpr c26
        subst c26
        have H1 : ((laws_markBoard.f kj5 t10109 t10110 t10111 t10112 1).bind fun bt10118 => ((laws_heldBoard.f kj5 t10109 t10110 t10111 bt10118.2 1).bind fun t10120 => (if t10120 < 0 then (some false) else (if t10120 = bt10118.1 then ((impl_PlainBoard.f kj5 a0 a1 a2).bind fun bt10121 => ((laws_eqBoard.f kj5 bt10121.1 bt10121.2.1 bt10121.2.2.1 bt10121.2.2.2.1 t10101 t10102 t10103 t10104).bind fun t10129 => (if t10129 = true then (laws_FnExactPlainBoard.j1 kj5 bt10118.1 (bt10121.2.2.2.2 != t10107) t10109 t10110 t10111 bt10118.2) else (laws_FnExactPlainBoard.j1 kj5 bt10118.1 true t10109 t10110 t10111 bt10118.2)))) else (some false))))) = some r := by rw [if_neg (show ¬ (false = true) by decide)] at H; exact H
        clear H
        have H := H1
        clear H1
        replace H := Option.bind_eq_some_iff.mp H
        obtain ⟨⟨t10118, t10119⟩, A270, H⟩ := H
        replace H : ((laws_heldBoard.f kj5 t10109 t10110 t10111 t10119 1).bind fun t10120 => (if t10120 < 0 then (some false) else (if t10120 = t10118 then ((impl_PlainBoard.f kj5 a0 a1 a2).bind fun bt10121 => ((laws_eqBoard.f kj5 bt10121.1 bt10121.2.1 bt10121.2.2.1 bt10121.2.2.2.1 t10101 t10102 t10103 t10104).bind fun t10129 => (if t10129 = true then (laws_FnExactPlainBoard.j1 kj5 t10118 (bt10121.2.2.2.2 != t10107) t10109 t10110 t10111 t10119) else (laws_FnExactPlainBoard.j1 kj5 t10118 true t10109 t10110 t10111 t10119)))) else (some false)))) = some r := H
        have A27 := Aside0.mk A270
        clear A270
        replace H := Option.bind_eq_some_iff.mp H
        obtain ⟨t10120, A280, H⟩ := H
        replace H : (if t10120 < 0 then (some false) else (if t10120 = t10118 then ((impl_PlainBoard.f kj5 a0 a1 a2).bind fun bt10121 => ((laws_eqBoard.f kj5 bt10121.1 bt10121.2.1 bt10121.2.2.1 bt10121.2.2.2.1 t10101 t10102 t10103 t10104).bind fun t10129 => (if t10129 = true then (laws_FnExactPlainBoard.j1 kj5 t10118 (bt10121.2.2.2.2 != t10107) t10109 t10110 t10111 t10119) else (laws_FnExactPlainBoard.j1 kj5 t10118 true t10109 t10110 t10111 t10119)))) else (some false))) = some r := H
        have A28 := Aside0.mk A280
        clear A280
        by_cases c29 : t10120 < 0
        · rw [if_pos c29] at H
          have c29b0 : decide (t10120 < 0) = true := decide_eq_true c29
          clear c29
          obtain rfl := Option.some.inj H
          have hnb30 := NB10116_10108.out
          have hnc30 := NB10108_10116.out
          have hcz31_0 : wc.cell? ⟨gb10116, 0, none⟩ = some (.int .i64 t10109) := (blk_cell BK10116.out 0).trans rfl
          have hcz31_1 : wc.cell? ⟨gb10116, 1, none⟩ = some (.int .i64 t10110) := (blk_cell BK10116.out 1).trans rfl
          have hcz31_2 : wc.cell? ⟨gb10116, 2, none⟩ = some (.int .i64 t10111) := (blk_cell BK10116.out 2).trans rfl
          have hcz31_3 : wc.cell? ⟨gb10116, 3, none⟩ = some (.slice Ao15 t10112.length co15) := (blk_cell BK10116.out 3).trans rfl
          have hfz31_0 := blk_frozen BK10116.out 0
          have hfz31_1 := blk_frozen BK10116.out 1
          have hfz31_2 := blk_frozen BK10116.out 2
          have hfz31_3 := blk_frozen BK10116.out 3
          go_wp2_with (first | ((with_reducible refine gate_callee (f := 47) rfl ?_); refine goesL_ (some 40) rfl rfl Try.func47 (by kernel_rfl) rfl #[.agg #[.int .i64 t10109, .int .i64 t10110, .int .i64 t10111, .slice Ao15 t10112.length co15], .int .i64 1] rfl (by (try simp only [List.map_toArray, List.map_cons, List.map_nil]); first | done | rfl | (simp only [List.length_drop, List.length_take]; rfl)) ?_; (with_reducible refine (laws_markBoard.calls kj5 t10109 t10110 t10111 (fun k_ => some k_ = (.slice Ao15 t10112.length co15 : Value).ownBlock) (.slice Ao15 t10112.length co15) t10112 1 t10118 t10119 w _ ?side1 ?side2 A27.out).mono ?_); (case side1 => repeat (first | (with_reducible first | exact HB.out | apply below_alloc | apply pw_below_drewN | apply below_drew1 | refine below_set ?_ GE10108.out | refine below_set ?_ GE10116.out) | exact HB.out)); (case side2 => exact Kd.R_tight rfl HO_10117003.out); rintro e w32 ⟨rfl, hy0, hb, hkp⟩; refine ⟨_, rfl, ?_⟩; have n0_ := Aside0.mk (Kd.R_mono (ok' := fun k_ => some k_ ≠ (.slice Ao15 t10112.length co15 : Value).ownBlock) (Kd.R_keptB (HO_10109003.out) hkp (fun k_ hk_ hs_ => (hk_) hs_)) (fun k_ hk_ => hk_.1)); have n1_ := Aside0.mk (Kd.R_reok rfl hy0 (fun k_ e_ => HO_10117003.out.1 k_ e_)); have n2_ := Aside0.mk (blk_kept (by (with_reducible repeat (first | refine blk_drewN ?_ _ | refine blk_drew ?_ | refine blk_alloc ?_ _)); exact BK10108.out) hkp (fun hs_ => (fun e_ => (Kd.R_ne HO_10117003.out BK10108.out (by decide)) e_) hs_)); have n3_ := Aside0.mk (blk_kept (by (with_reducible repeat (first | refine blk_drewN ?_ _ | refine blk_drew ?_ | refine blk_alloc ?_ _)); exact BK10116.out) hkp (fun hs_ => (fun e_ => (Kd.R_ne HO_10117003.out BK10116.out (by decide)) e_) hs_)); have n4_ := Aside0.mk (hb); clear HO_10109003; clear HO_10117003; clear BK10108; clear BK10116; clear HB; have HO_10109003 := n0_; have HO_10117003 := n1_; have BK10108 := n2_; have BK10116 := n3_; have HB := n4_; clear n0_ n1_ n2_ n3_ n4_; (try clear hb); (try clear hkp); (try clear hy0); have hcz33_0 : w32.cell? ⟨gb10116, 0, none⟩ = some (.int .i64 t10109) := (blk_cell BK10116.out 0).trans rfl; have hcz33_1 : w32.cell? ⟨gb10116, 1, none⟩ = some (.int .i64 t10110) := (blk_cell BK10116.out 1).trans rfl; have hcz33_2 : w32.cell? ⟨gb10116, 2, none⟩ = some (.int .i64 t10111) := (blk_cell BK10116.out 2).trans rfl; have hcz33_3 : w32.cell? ⟨gb10116, 3, none⟩ = some (.slice Ao15 t10112.length co15) := (blk_cell BK10116.out 3).trans rfl; have hfz33_0 := blk_frozen BK10116.out 0; have hfz33_1 := blk_frozen BK10116.out 1; have hfz33_2 := blk_frozen BK10116.out 2; have hfz33_3 := blk_frozen BK10116.out 3) | ((with_reducible refine gate_callee (f := 48) rfl ?_); refine goesL_ (some 43) rfl rfl Try.func48 (by kernel_rfl) rfl #[.agg #[.int .i64 t10109, .int .i64 t10110, .int .i64 t10111, .slice Ao15 t10119.length co15], .int .i64 1] rfl (by (try simp only [List.map_toArray, List.map_cons, List.map_nil]); first | done | (rw [show t10119.length = t10112.length from (Kd.R_reads' HO_10117003.out).1.symm] <;> rfl) | rfl | (simp only [List.length_drop, List.length_take]; rfl)) ?_; (with_reducible refine (laws_heldBoard.calls kj5 t10109 t10110 t10111 _ _ t10119 1 t10120 _ ?side1 ?side2 A28.out).mono ?_); (case side1 => repeat (first | exact (Kd.R_reads' HO_10117003.out).2.2 | (with_reducible refine Kd.C_alloc ?_ _) | (with_reducible refine Kd.C_drewN ?_ _) | (with_reducible refine Kd.C_drew ?_))); (case side2 => rw [show t10119.length = t10112.length from (Kd.R_reads' HO_10117003.out).1.symm]; exact (Kd.R_reads' HO_10117003.out).2.1); rintro e w34 ⟨rfl, hb⟩; refine ⟨_, rfl, ?_⟩; have n0_ := Aside0.mk (Kd.R_below (by (with_reducible repeat (first | apply Kd.R_alloc | apply Kd.R_drewN | apply Kd.R_drew)); exact HO_10109003.out) hb); have n1_ := Aside0.mk (Kd.R_below (by (with_reducible repeat (first | apply Kd.R_alloc | apply Kd.R_drewN | apply Kd.R_drew)); exact HO_10117003.out) hb); have n2_ := Aside0.mk (blk_below (g := gb10108) (o := .cells #[.int .i64 t10101, .int .i64 t10102, .int .i64 t10103, .slice Ao10 t10104.length co10] 32 (0, 0)) (by (with_reducible repeat (first | refine blk_drewN ?_ _ | refine blk_drew ?_ | refine blk_alloc ?_ _)); exact BK10108.out) hb); have n3_ := Aside0.mk (blk_below (g := gb10116) (o := .cells #[.int .i64 t10109, .int .i64 t10110, .int .i64 t10111, .slice Ao15 t10112.length co15] 32 (0, 0)) (by (with_reducible repeat (first | refine blk_drewN ?_ _ | refine blk_drew ?_ | refine blk_alloc ?_ _)); exact BK10116.out) hb); have n4_ := Aside0.mk (below_step (by repeat (first | (with_reducible first | exact HB.out | apply below_alloc | apply pw_below_drewN | apply below_drew1 | refine below_set ?_ GE10108.out | refine below_set ?_ GE10116.out) | exact HB.out)) hb); clear HO_10109003; clear HO_10117003; clear BK10108; clear BK10116; clear HB; have HO_10109003 := n0_; have HO_10117003 := n1_; have BK10108 := n2_; have BK10116 := n3_; have HB := n4_; clear n0_ n1_ n2_ n3_ n4_; (try clear hb); (try clear hb2); (try clear hk); (try clear hi)))
          go_ret
          exact ⟨by first | rfl | (simp [errW_none, errW_some] <;> rfl) | (simp [*, errW_none, errW_some] <;> rfl), by repeat (first | (with_reducible first | exact HB.out | apply below_alloc | apply pw_below_drewN | apply below_drew1 | refine below_set ?_ GE10108.out | refine below_set ?_ GE10116.out) | exact HB.out)⟩
        · rw [if_neg c29] at H
          have c29b0 : decide (t10120 < 0) = false := decide_eq_false c29
          clear c29
          by_cases c35 : t10120 = t10118
          · rw [if_pos c35] at H
            have c35b0 : (t10120 == t10118) = true := beq_iff_eq.mpr c35
            have c35b1 : (t10120 != t10118) = false := bne_eq_false_iff_eq.mpr c35
            clear c35
            replace H := Option.bind_eq_some_iff.mp H
            obtain ⟨⟨t10121, t10122, t10123, t10124, t10127⟩, A360, H⟩ := H
            replace H : ((laws_eqBoard.f kj5 t10121 t10122 t10123 t10124 t10101 t10102 t10103 t10104).bind fun t10129 => (if t10129 = true then (laws_FnExactPlainBoard.j1 kj5 t10118 (t10127 != t10107) t10109 t10110 t10111 t10119) else (laws_FnExactPlainBoard.j1 kj5 t10118 true t10109 t10110 t10111 t10119))) = some r := H
            have A36 := Aside0.mk A360
            clear A360
            have HC37 := Aside0.mk H
            clear H
            have hnb38 := NB10116_10108.out
            have hnc38 := NB10108_10116.out
            have hcz39_0 : wc.cell? ⟨gb10116, 0, none⟩ = some (.int .i64 t10109) := (blk_cell BK10116.out 0).trans rfl
            have hcz39_1 : wc.cell? ⟨gb10116, 1, none⟩ = some (.int .i64 t10110) := (blk_cell BK10116.out 1).trans rfl
            have hcz39_2 : wc.cell? ⟨gb10116, 2, none⟩ = some (.int .i64 t10111) := (blk_cell BK10116.out 2).trans rfl
            have hcz39_3 : wc.cell? ⟨gb10116, 3, none⟩ = some (.slice Ao15 t10112.length co15) := (blk_cell BK10116.out 3).trans rfl
            have hfz39_0 := blk_frozen BK10116.out 0
            have hfz39_1 := blk_frozen BK10116.out 1
            have hfz39_2 := blk_frozen BK10116.out 2
            have hfz39_3 := blk_frozen BK10116.out 3
            go_upto_region 14 with (first | ((with_reducible refine gate_callee (f := 47) rfl ?_); refine goesL_ (some 40) rfl rfl Try.func47 (by kernel_rfl) rfl #[.agg #[.int .i64 t10109, .int .i64 t10110, .int .i64 t10111, .slice Ao15 t10112.length co15], .int .i64 1] rfl (by (try simp only [List.map_toArray, List.map_cons, List.map_nil]); first | done | rfl | (simp only [List.length_drop, List.length_take]; rfl)) ?_; (with_reducible refine (laws_markBoard.calls kj5 t10109 t10110 t10111 (fun k_ => some k_ = (.slice Ao15 t10112.length co15 : Value).ownBlock) (.slice Ao15 t10112.length co15) t10112 1 t10118 t10119 w _ ?side1 ?side2 A27.out).mono ?_); (case side1 => repeat (first | (with_reducible first | exact HB.out | apply below_alloc | apply pw_below_drewN | apply below_drew1 | refine below_set ?_ GE10108.out | refine below_set ?_ GE10116.out) | exact HB.out)); (case side2 => exact Kd.R_tight rfl HO_10117003.out); rintro e w40 ⟨rfl, hy0, hb, hkp⟩; refine ⟨_, rfl, ?_⟩; have n0_ := Aside0.mk (Kd.R_mono (ok' := fun k_ => some k_ ≠ (.slice Ao15 t10112.length co15 : Value).ownBlock) (Kd.R_keptB (HO_10109003.out) hkp (fun k_ hk_ hs_ => (hk_) hs_)) (fun k_ hk_ => hk_.1)); have n1_ := Aside0.mk (Kd.R_reok rfl hy0 (fun k_ e_ => HO_10117003.out.1 k_ e_)); have n2_ := Aside0.mk (blk_kept (by (with_reducible repeat (first | refine blk_drewN ?_ _ | refine blk_drew ?_ | refine blk_alloc ?_ _)); exact BK10108.out) hkp (fun hs_ => (fun e_ => (Kd.R_ne HO_10117003.out BK10108.out (by decide)) e_) hs_)); have n3_ := Aside0.mk (blk_kept (by (with_reducible repeat (first | refine blk_drewN ?_ _ | refine blk_drew ?_ | refine blk_alloc ?_ _)); exact BK10116.out) hkp (fun hs_ => (fun e_ => (Kd.R_ne HO_10117003.out BK10116.out (by decide)) e_) hs_)); have n4_ := Aside0.mk (hb); clear HO_10109003; clear HO_10117003; clear BK10108; clear BK10116; clear HB; have HO_10109003 := n0_; have HO_10117003 := n1_; have BK10108 := n2_; have BK10116 := n3_; have HB := n4_; clear n0_ n1_ n2_ n3_ n4_; (try clear hb); (try clear hkp); (try clear hy0); have hcz41_0 : w40.cell? ⟨gb10116, 0, none⟩ = some (.int .i64 t10109) := (blk_cell BK10116.out 0).trans rfl; have hcz41_1 : w40.cell? ⟨gb10116, 1, none⟩ = some (.int .i64 t10110) := (blk_cell BK10116.out 1).trans rfl; have hcz41_2 : w40.cell? ⟨gb10116, 2, none⟩ = some (.int .i64 t10111) := (blk_cell BK10116.out 2).trans rfl; have hcz41_3 : w40.cell? ⟨gb10116, 3, none⟩ = some (.slice Ao15 t10112.length co15) := (blk_cell BK10116.out 3).trans rfl; have hfz41_0 := blk_frozen BK10116.out 0; have hfz41_1 := blk_frozen BK10116.out 1; have hfz41_2 := blk_frozen BK10116.out 2; have hfz41_3 := blk_frozen BK10116.out 3) | ((with_reducible refine gate_callee (f := 48) rfl ?_); refine goesL_ (some 43) rfl rfl Try.func48 (by kernel_rfl) rfl #[.agg #[.int .i64 t10109, .int .i64 t10110, .int .i64 t10111, .slice Ao15 t10119.length co15], .int .i64 1] rfl (by (try simp only [List.map_toArray, List.map_cons, List.map_nil]); first | done | (rw [show t10119.length = t10112.length from (Kd.R_reads' HO_10117003.out).1.symm] <;> rfl) | rfl | (simp only [List.length_drop, List.length_take]; rfl)) ?_; (with_reducible refine (laws_heldBoard.calls kj5 t10109 t10110 t10111 _ _ t10119 1 t10120 _ ?side1 ?side2 A28.out).mono ?_); (case side1 => repeat (first | exact (Kd.R_reads' HO_10117003.out).2.2 | (with_reducible refine Kd.C_alloc ?_ _) | (with_reducible refine Kd.C_drewN ?_ _) | (with_reducible refine Kd.C_drew ?_))); (case side2 => rw [show t10119.length = t10112.length from (Kd.R_reads' HO_10117003.out).1.symm]; exact (Kd.R_reads' HO_10117003.out).2.1); rintro e w42 ⟨rfl, hb⟩; refine ⟨_, rfl, ?_⟩; have n0_ := Aside0.mk (Kd.R_below (by (with_reducible repeat (first | apply Kd.R_alloc | apply Kd.R_drewN | apply Kd.R_drew)); exact HO_10109003.out) hb); have n1_ := Aside0.mk (Kd.R_below (by (with_reducible repeat (first | apply Kd.R_alloc | apply Kd.R_drewN | apply Kd.R_drew)); exact HO_10117003.out) hb); have n2_ := Aside0.mk (blk_below (g := gb10108) (o := .cells #[.int .i64 t10101, .int .i64 t10102, .int .i64 t10103, .slice Ao10 t10104.length co10] 32 (0, 0)) (by (with_reducible repeat (first | refine blk_drewN ?_ _ | refine blk_drew ?_ | refine blk_alloc ?_ _)); exact BK10108.out) hb); have n3_ := Aside0.mk (blk_below (g := gb10116) (o := .cells #[.int .i64 t10109, .int .i64 t10110, .int .i64 t10111, .slice Ao15 t10112.length co15] 32 (0, 0)) (by (with_reducible repeat (first | refine blk_drewN ?_ _ | refine blk_drew ?_ | refine blk_alloc ?_ _)); exact BK10116.out) hb); have n4_ := Aside0.mk (below_step (by repeat (first | (with_reducible first | exact HB.out | apply below_alloc | apply pw_below_drewN | apply below_drew1 | refine below_set ?_ GE10108.out | refine below_set ?_ GE10116.out) | exact HB.out)) hb); clear HO_10109003; clear HO_10117003; clear BK10108; clear BK10116; clear HB; have HO_10109003 := n0_; have HO_10117003 := n1_; have BK10108 := n2_; have BK10116 := n3_; have HB := n4_; clear n0_ n1_ n2_ n3_ n4_; (try clear hb); (try clear hb2); (try clear hk); (try clear hi)) | ((with_reducible refine gate_callee (f := 46) rfl ?_); refine goesL_ (some 53) rfl rfl Try.func46 (by kernel_rfl) rfl #[.int .i64 a0, .int .i64 a1, .int .i64 a2] rfl (by (try simp only [List.map_toArray, List.map_cons, List.map_nil]); first | done | rfl | (simp only [List.length_drop, List.length_take]; rfl)) ?_; (with_reducible refine (impl_PlainBoard.calls kj5 a0 a1 a2 t10121 t10122 t10123 t10124 t10127 _ A36.out).mono ?_); rintro e w43 ⟨v10125, rfl, ho0, hb⟩; refine ⟨_, rfl, ?_⟩; have n0_ := Aside0.mk (Kd.R_elder' (by (with_reducible repeat (first | apply Kd.R_alloc | apply Kd.R_drewN | apply Kd.R_drew)); exact HO_10109003.out) (Kd.R_base ho0) hb); have n1_ := Aside0.mk (Kd.R_elder' (by (with_reducible repeat (first | apply Kd.R_alloc | apply Kd.R_drewN | apply Kd.R_drew)); exact HO_10117003.out) (Kd.R_base ho0) hb); have n2_ := Aside0.mk (Kd.R_lower (Kd.R_new' (Kd.R_new' ho0 (Kd.R_lt (by (with_reducible repeat (first | apply Kd.R_alloc | apply Kd.R_drewN | apply Kd.R_drew)); exact HO_10109003.out))) (Kd.R_lt (by (with_reducible repeat (first | apply Kd.R_alloc | apply Kd.R_drewN | apply Kd.R_drew)); exact HO_10117003.out))) (below_size (by repeat (first | (with_reducible first | exact HB.out | apply below_alloc | apply pw_below_drewN | apply below_drew1 | refine below_set ?_ GE10108.out | refine below_set ?_ GE10116.out) | exact HB.out)))); have n3_ := Aside0.mk (blk_below (g := gb10108) (o := .cells #[.int .i64 t10101, .int .i64 t10102, .int .i64 t10103, .slice Ao10 t10104.length co10] 32 (0, 0)) (by (with_reducible repeat (first | refine blk_drewN ?_ _ | refine blk_drew ?_ | refine blk_alloc ?_ _)); exact BK10108.out) hb); have n4_ := Aside0.mk (blk_below (g := gb10116) (o := .cells #[.int .i64 t10109, .int .i64 t10110, .int .i64 t10111, .slice Ao15 t10112.length co15] 32 (0, 0)) (by (with_reducible repeat (first | refine blk_drewN ?_ _ | refine blk_drew ?_ | refine blk_alloc ?_ _)); exact BK10116.out) hb); have n5_ := Aside0.mk (below_step (by repeat (first | (with_reducible first | exact HB.out | apply below_alloc | apply pw_below_drewN | apply below_drew1 | refine below_set ?_ GE10108.out | refine below_set ?_ GE10116.out) | exact HB.out)) hb); clear HO_10109003; clear HO_10117003; clear BK10108; clear BK10116; clear HB; have HO_10109003 := n0_; have HO_10117003 := n1_; have HO10126 := n2_; have BK10108 := n3_; have BK10116 := n4_; have HB := n5_; clear n0_ n1_ n2_ n3_ n4_ n5_; (try clear hb); (try clear hb2); (try clear hk); (try clear hi); (try clear ho0)) | ((with_reducible refine gate_dst (N := 13) rfl ?_); refine box_event ?hg (N := 13) ?hd (cs := #[.int .i64 0, .int .i64 0, .int .i64 0, .slice none 0 0]) (t := 32) ?hr ?_; (case hd => rfl); (case hg => rfl); (case hr => first | (go_simp; done) | (go_simp; rfl)); intro gb10128 hg w44 hbox hb; have n0_ := Aside0.mk (Kd.R_below (by (with_reducible repeat (first | apply Kd.R_alloc | apply Kd.R_drewN | apply Kd.R_drew)); exact HO_10109003.out) hb); have n1_ := Aside0.mk (Kd.R_below (by (with_reducible repeat (first | apply Kd.R_alloc | apply Kd.R_drewN | apply Kd.R_drew)); exact HO_10117003.out) hb); have n2_ := Aside0.mk (Kd.R_below (by (with_reducible repeat (first | apply Kd.R_alloc | apply Kd.R_drewN | apply Kd.R_drew)); exact HO10126.out) hb); have n3_ := Aside0.mk (blk_below (g := gb10108) (o := .cells #[.int .i64 t10101, .int .i64 t10102, .int .i64 t10103, .slice Ao10 t10104.length co10] 32 (0, 0)) (by (with_reducible repeat (first | refine blk_drewN ?_ _ | refine blk_drew ?_ | refine blk_alloc ?_ _)); exact BK10108.out) hb); have n4_ := Aside0.mk (blk_below (g := gb10116) (o := .cells #[.int .i64 t10109, .int .i64 t10110, .int .i64 t10111, .slice Ao15 t10112.length co15] 32 (0, 0)) (by (with_reducible repeat (first | refine blk_drewN ?_ _ | refine blk_drew ?_ | refine blk_alloc ?_ _)); exact BK10116.out) hb); have n5_ := Aside0.mk (below_step (by repeat (first | (with_reducible first | exact HB.out | apply below_alloc | apply pw_below_drewN | apply below_drew1 | refine below_set ?_ GE10108.out | refine below_set ?_ GE10116.out) | exact HB.out)) hb); have n6_ := Aside0.mk (hbox); have n7_ := Aside0.mk ((by rw [hg]; exact (below_size (by repeat (first | (with_reducible first | exact HB.out | apply below_alloc | apply pw_below_drewN | apply below_drew1 | refine below_set ?_ GE10108.out | refine below_set ?_ GE10116.out) | exact HB.out))) : w.heap.size ≤ gb10128)); have n8_ := Aside0.mk ((by rw [hg]; exact (below_size (by repeat (first | (with_reducible first | exact HB.out | apply below_alloc | apply pw_below_drewN | apply below_drew1 | refine below_set ?_ GE10108.out | refine below_set ?_ GE10116.out) | exact HB.out))) : w.heap.size ≤ gb10128)); have n9_ := Aside0.mk ((by rw [hg]; exact Nat.ne_of_lt (blk_lt (g := gb10108) (o := .cells #[.int .i64 t10101, .int .i64 t10102, .int .i64 t10103, .slice Ao10 t10104.length co10] 32 (0, 0)) (by (with_reducible repeat (first | refine blk_drewN ?_ _ | refine blk_drew ?_ | refine blk_alloc ?_ _)); exact BK10108.out)) : gb10108 ≠ gb10128)); have n10_ := Aside0.mk ((by rw [hg]; exact Nat.ne_of_gt (blk_lt (g := gb10108) (o := .cells #[.int .i64 t10101, .int .i64 t10102, .int .i64 t10103, .slice Ao10 t10104.length co10] 32 (0, 0)) (by (with_reducible repeat (first | refine blk_drewN ?_ _ | refine blk_drew ?_ | refine blk_alloc ?_ _)); exact BK10108.out)) : gb10128 ≠ gb10108)); have n11_ := Aside0.mk ((by rw [hg]; exact Nat.ne_of_lt (blk_lt (g := gb10116) (o := .cells #[.int .i64 t10109, .int .i64 t10110, .int .i64 t10111, .slice Ao15 t10112.length co15] 32 (0, 0)) (by (with_reducible repeat (first | refine blk_drewN ?_ _ | refine blk_drew ?_ | refine blk_alloc ?_ _)); exact BK10116.out)) : gb10116 ≠ gb10128)); have n12_ := Aside0.mk ((by rw [hg]; exact Nat.ne_of_gt (blk_lt (g := gb10116) (o := .cells #[.int .i64 t10109, .int .i64 t10110, .int .i64 t10111, .slice Ao15 t10112.length co15] 32 (0, 0)) (by (with_reducible repeat (first | refine blk_drewN ?_ _ | refine blk_drew ?_ | refine blk_alloc ?_ _)); exact BK10116.out)) : gb10128 ≠ gb10116)); clear HO_10109003; clear HO_10117003; clear HO10126; clear BK10108; clear BK10116; clear HB; have HO_10109003 := n0_; have HO_10117003 := n1_; have HO10126 := n2_; have BK10108 := n3_; have BK10116 := n4_; have HB := n5_; have BK10128 := n6_; have GW10128 := n7_; have GE10128 := n8_; have NB10108_10128 := n9_; have NB10128_10108 := n10_; have NB10116_10128 := n11_; have NB10128_10116 := n12_; clear n0_ n1_ n2_ n3_ n4_ n5_ n6_ n7_ n8_ n9_ n10_ n11_ n12_; clear hb hbox hg; have hnb45 := NB10128_10108.out; have hnc45 := NB10108_10128.out; have hnb46 := NB10128_10116.out; have hnc46 := NB10116_10128.out; have hcz47_0 : w44.cell? ⟨gb10128, 0, none⟩ = some (.int .i64 0) := (blk_cell BK10128.out 0).trans rfl; have hcz47_1 : w44.cell? ⟨gb10128, 1, none⟩ = some (.int .i64 0) := (blk_cell BK10128.out 1).trans rfl; have hcz47_2 : w44.cell? ⟨gb10128, 2, none⟩ = some (.int .i64 0) := (blk_cell BK10128.out 2).trans rfl; have hcz47_3 : w44.cell? ⟨gb10128, 3, none⟩ = some (.slice none 0 0) := (blk_cell BK10128.out 3).trans rfl; have hfz47_0 := blk_frozen BK10128.out 0; have hfz47_1 := blk_frozen BK10128.out 1; have hfz47_2 := blk_frozen BK10128.out 2; have hfz47_3 := blk_frozen BK10128.out 3; obtain ⟨Ao48, co48, eo48⟩ := Kd.R_slice HO10126.out; subst eo48))
            (try simp only [Act.put, List.setIfInBounds_toArray, List.set_cons_zero, List.set_cons_succ])
            go_cut [64] (fun v64 wc => ∃ (kq : Nat) (x64_36 : Bool), v64 = .bool x64_36 ∧ Aside0 (laws_FnExactPlainBoard.j1 kq t10118 x64_36 t10109 t10110 t10111 t10119 = some r) ∧ Aside0 (kq ≤ kj5) ∧ Aside0 (Kd.R k27 27 wc w.heap.size (fun k_ => some k_ ≠ ((.slice Ao15 t10112.length co15) : Value).ownBlock ∧ some k_ ≠ ((.slice Ao48 t10124.length co48) : Value).ownBlock) (.slice Ao10 t10104.length co10) t10104) ∧ Aside0 (Kd.R k27 27 wc w.heap.size (fun k_ => some k_ ≠ ((.slice Ao10 t10104.length co10) : Value).ownBlock ∧ some k_ ≠ ((.slice Ao48 t10124.length co48) : Value).ownBlock) (.slice Ao15 t10112.length co15) t10119) ∧ Aside0 (Kd.R k27 27 wc w.heap.size (fun k_ => some k_ ≠ ((.slice Ao10 t10104.length co10) : Value).ownBlock ∧ some k_ ≠ ((.slice Ao15 t10112.length co15) : Value).ownBlock) (.slice Ao48 t10124.length co48) t10124) ∧ Aside0 (wc.heap[gb10108]? = some (.cells #[.int .i64 t10101, .int .i64 t10102, .int .i64 t10103, (.slice Ao10 t10104.length co10)] 32 (0, 0))) ∧ Aside0 (wc.heap[gb10116]? = some (.cells #[.int .i64 t10109, .int .i64 t10110, .int .i64 t10111, (.slice Ao15 t10112.length co15)] 32 (0, 0))) ∧ Aside0 (wc.heap[gb10128]? = some (.cells #[.int .i64 t10121, .int .i64 t10122, .int .i64 t10123, (.slice Ao48 t10124.length co48)] 32 (0, 0))) ∧ Aside0 (Below w.heap.size w wc))
            case first =>
              have H := HC37.out
              clear HC37
              replace H := Option.bind_eq_some_iff.mp H
              obtain ⟨t10129, A490, H⟩ := H
              replace H : (if t10129 = true then (laws_FnExactPlainBoard.j1 kj5 t10118 (t10127 != t10107) t10109 t10110 t10111 t10119) else (laws_FnExactPlainBoard.j1 kj5 t10118 true t10109 t10110 t10111 t10119)) = some r := H
              have A49 := Aside0.mk A490
              clear A490
              by_cases c50 : t10129 = true
              · subst c50
                have H1 : (laws_FnExactPlainBoard.j1 kj5 t10118 (t10127 != t10107) t10109 t10110 t10111 t10119) = some r := by rw [if_pos rfl] at H; exact H
                clear H
                have H := H1
                clear H1
                have H' := Aside0.mk H
                clear H
                have hnb51 := NB10128_10108.out
                have hnc51 := NB10108_10128.out
                have hnb52 := NB10128_10116.out
                have hnc52 := NB10116_10128.out
                have hcz53_0 : w44.cell? ⟨gb10128, 0, none⟩ = some (.int .i64 0) := (blk_cell BK10128.out 0).trans rfl
                have hcz53_1 : w44.cell? ⟨gb10128, 1, none⟩ = some (.int .i64 0) := (blk_cell BK10128.out 1).trans rfl
                have hcz53_2 : w44.cell? ⟨gb10128, 2, none⟩ = some (.int .i64 0) := (blk_cell BK10128.out 2).trans rfl
                have hcz53_3 : w44.cell? ⟨gb10128, 3, none⟩ = some (.slice none 0 0) := (blk_cell BK10128.out 3).trans rfl
                have hfz53_0 := blk_frozen BK10128.out 0
                have hfz53_1 := blk_frozen BK10128.out 1
                have hfz53_2 := blk_frozen BK10128.out 2
                have hfz53_3 := blk_frozen BK10128.out 3
                have hnb54 := NB10108_10116.out
                have hnc54 := NB10116_10108.out
                have hcz55_0 : w44.cell? ⟨gb10108, 0, none⟩ = some (.int .i64 t10101) := (blk_cell BK10108.out 0).trans rfl
                have hcz55_1 : w44.cell? ⟨gb10108, 1, none⟩ = some (.int .i64 t10102) := (blk_cell BK10108.out 1).trans rfl
                have hcz55_2 : w44.cell? ⟨gb10108, 2, none⟩ = some (.int .i64 t10103) := (blk_cell BK10108.out 2).trans rfl
                have hcz55_3 : w44.cell? ⟨gb10108, 3, none⟩ = some (.slice Ao10 t10104.length co10) := (blk_cell BK10108.out 3).trans rfl
                have hfz55_0 := blk_frozen BK10108.out 0
                have hfz55_1 := blk_frozen BK10108.out 1
                have hfz55_2 := blk_frozen BK10108.out 2
                have hfz55_3 := blk_frozen BK10108.out 3
                go_wp2_with (first | ((with_reducible refine gate_callee (f := 42) rfl ?_); refine goesL_ (some 58) rfl rfl Try.func42 (by kernel_rfl) rfl #[.agg #[.int .i64 t10121, .int .i64 t10122, .int .i64 t10123, .slice Ao48 t10124.length co48], .agg #[.int .i64 t10101, .int .i64 t10102, .int .i64 t10103, .slice Ao10 t10104.length co10]] rfl (by (try simp only [List.map_toArray, List.map_cons, List.map_nil]); first | done | rfl | (simp only [List.length_drop, List.length_take]; rfl)) ?_; (with_reducible refine (laws_eqBoard.calls kj5 t10121 t10122 t10123 _ _ t10124 t10101 t10102 t10103 _ _ t10104 true _ ?side1 ?side2 ?side3 ?side4 A49.out).mono ?_); (case side1 => refine (Kd.R_reads' (e := 27) (base := w.heap.size) (ok := fun k_ => ((True ∧ some k_ ≠ (.slice Ao10 t10104.length co10 : Value).ownBlock) ∧ some k_ ≠ (.slice Ao15 t10112.length co15 : Value).ownBlock)) (n := t10124.length) (c := co48) ?_).2.2; exact (by (with_reducible repeat (first | apply Kd.R_alloc | apply Kd.R_drewN | apply Kd.R_drew)); exact (Kd.R_mono (Kd.R_far (p := ⟨gb10128, 3, none⟩) (Kd.R_far (p := ⟨gb10128, 2, none⟩) (Kd.R_far (p := ⟨gb10128, 1, none⟩) (Kd.R_far (p := ⟨gb10128, 0, none⟩) (Kd.R_types HO10126.out BK10128.out (by decide)) (fun _ hk => hk.2) (.int .i64 t10121)) (fun _ hk => hk.2) (.int .i64 t10122)) (fun _ hk => hk.2) (.int .i64 t10123)) (fun _ hk => hk.2) (.slice Ao48 t10124.length co48)) (fun _ h_ => h_.1)))); (case side2 => exact (Kd.R_reads' HO10126.out).2.1); (case side3 => refine (Kd.R_reads' (e := 27) (base := w.heap.size) (ok := fun k_ => (some k_ ≠ (.slice Ao15 t10112.length co15 : Value).ownBlock ∧ some k_ ≠ (.slice Ao48 t10124.length co48 : Value).ownBlock)) (n := t10104.length) (c := co10) ?_).2.2; exact (by (with_reducible repeat (first | apply Kd.R_alloc | apply Kd.R_drewN | apply Kd.R_drew)); exact (Kd.R_mono (Kd.R_far (p := ⟨gb10128, 3, none⟩) (Kd.R_far (p := ⟨gb10128, 2, none⟩) (Kd.R_far (p := ⟨gb10128, 1, none⟩) (Kd.R_far (p := ⟨gb10128, 0, none⟩) (Kd.R_types HO_10109003.out BK10128.out (by decide)) (fun _ hk => hk.2) (.int .i64 t10121)) (fun _ hk => hk.2) (.int .i64 t10122)) (fun _ hk => hk.2) (.int .i64 t10123)) (fun _ hk => hk.2) (.slice Ao48 t10124.length co48)) (fun _ h_ => h_.1)))); (case side4 => exact (Kd.R_reads' HO_10109003.out).2.1); rintro e w56 ⟨rfl, hb⟩; refine ⟨_, rfl, ?_⟩; have n0_ := Aside0.mk (Kd.R_below (by (with_reducible repeat (first | apply Kd.R_alloc | apply Kd.R_drewN | apply Kd.R_drew)); exact (Kd.R_mono (Kd.R_far (p := ⟨gb10128, 3, none⟩) (Kd.R_far (p := ⟨gb10128, 2, none⟩) (Kd.R_far (p := ⟨gb10128, 1, none⟩) (Kd.R_far (p := ⟨gb10128, 0, none⟩) (Kd.R_types HO_10109003.out BK10128.out (by decide)) (fun _ hk => hk.2) (.int .i64 t10121)) (fun _ hk => hk.2) (.int .i64 t10122)) (fun _ hk => hk.2) (.int .i64 t10123)) (fun _ hk => hk.2) (.slice Ao48 t10124.length co48)) (fun _ h_ => h_.1))) hb); have n1_ := Aside0.mk (Kd.R_below (by (with_reducible repeat (first | apply Kd.R_alloc | apply Kd.R_drewN | apply Kd.R_drew)); exact (Kd.R_mono (Kd.R_far (p := ⟨gb10128, 3, none⟩) (Kd.R_far (p := ⟨gb10128, 2, none⟩) (Kd.R_far (p := ⟨gb10128, 1, none⟩) (Kd.R_far (p := ⟨gb10128, 0, none⟩) (Kd.R_types HO_10117003.out BK10128.out (by decide)) (fun _ hk => hk.2) (.int .i64 t10121)) (fun _ hk => hk.2) (.int .i64 t10122)) (fun _ hk => hk.2) (.int .i64 t10123)) (fun _ hk => hk.2) (.slice Ao48 t10124.length co48)) (fun _ h_ => h_.1))) hb); have n2_ := Aside0.mk (Kd.R_below (by (with_reducible repeat (first | apply Kd.R_alloc | apply Kd.R_drewN | apply Kd.R_drew)); exact (Kd.R_mono (Kd.R_far (p := ⟨gb10128, 3, none⟩) (Kd.R_far (p := ⟨gb10128, 2, none⟩) (Kd.R_far (p := ⟨gb10128, 1, none⟩) (Kd.R_far (p := ⟨gb10128, 0, none⟩) (Kd.R_types HO10126.out BK10128.out (by decide)) (fun _ hk => hk.2) (.int .i64 t10121)) (fun _ hk => hk.2) (.int .i64 t10122)) (fun _ hk => hk.2) (.int .i64 t10123)) (fun _ hk => hk.2) (.slice Ao48 t10124.length co48)) (fun _ h_ => h_.1))) hb); have n3_ := Aside0.mk (blk_below (g := gb10108) (o := .cells #[.int .i64 t10101, .int .i64 t10102, .int .i64 t10103, .slice Ao10 t10104.length co10] 32 (0, 0)) (by (with_reducible repeat (first | refine blk_drewN ?_ _ | refine blk_drew ?_ | refine blk_alloc ?_ _)); refine blk_far ?_ NB10108_10128.out _; (with_reducible repeat (first | refine blk_drewN ?_ _ | refine blk_drew ?_ | refine blk_alloc ?_ _)); refine blk_far ?_ NB10108_10128.out _; (with_reducible repeat (first | refine blk_drewN ?_ _ | refine blk_drew ?_ | refine blk_alloc ?_ _)); refine blk_far ?_ NB10108_10128.out _; (with_reducible repeat (first | refine blk_drewN ?_ _ | refine blk_drew ?_ | refine blk_alloc ?_ _)); refine blk_far ?_ NB10108_10128.out _; (with_reducible repeat (first | refine blk_drewN ?_ _ | refine blk_drew ?_ | refine blk_alloc ?_ _)); exact BK10108.out) hb); have n4_ := Aside0.mk (blk_below (g := gb10116) (o := .cells #[.int .i64 t10109, .int .i64 t10110, .int .i64 t10111, .slice Ao15 t10112.length co15] 32 (0, 0)) (by (with_reducible repeat (first | refine blk_drewN ?_ _ | refine blk_drew ?_ | refine blk_alloc ?_ _)); refine blk_far ?_ NB10116_10128.out _; (with_reducible repeat (first | refine blk_drewN ?_ _ | refine blk_drew ?_ | refine blk_alloc ?_ _)); refine blk_far ?_ NB10116_10128.out _; (with_reducible repeat (first | refine blk_drewN ?_ _ | refine blk_drew ?_ | refine blk_alloc ?_ _)); refine blk_far ?_ NB10116_10128.out _; (with_reducible repeat (first | refine blk_drewN ?_ _ | refine blk_drew ?_ | refine blk_alloc ?_ _)); refine blk_far ?_ NB10116_10128.out _; (with_reducible repeat (first | refine blk_drewN ?_ _ | refine blk_drew ?_ | refine blk_alloc ?_ _)); exact BK10116.out) hb); have n5_ := Aside0.mk (blk_below (g := gb10128) (o := .cells #[.int .i64 t10121, .int .i64 t10122, .int .i64 t10123, .slice Ao48 t10124.length co48] 32 (0, 0)) (by (with_reducible repeat (first | refine blk_drewN ?_ _ | refine blk_drew ?_ | refine blk_alloc ?_ _)); refine blk_put (cs := #[.int .i64 t10121, .int .i64 t10122, .int .i64 t10123, .slice none 0 0]) ?_ 3 _ rfl; (with_reducible repeat (first | refine blk_drewN ?_ _ | refine blk_drew ?_ | refine blk_alloc ?_ _)); refine blk_put (cs := #[.int .i64 t10121, .int .i64 t10122, .int .i64 0, .slice none 0 0]) ?_ 2 _ rfl; (with_reducible repeat (first | refine blk_drewN ?_ _ | refine blk_drew ?_ | refine blk_alloc ?_ _)); refine blk_put (cs := #[.int .i64 t10121, .int .i64 0, .int .i64 0, .slice none 0 0]) ?_ 1 _ rfl; (with_reducible repeat (first | refine blk_drewN ?_ _ | refine blk_drew ?_ | refine blk_alloc ?_ _)); refine blk_put (cs := #[.int .i64 0, .int .i64 0, .int .i64 0, .slice none 0 0]) ?_ 0 _ rfl; (with_reducible repeat (first | refine blk_drewN ?_ _ | refine blk_drew ?_ | refine blk_alloc ?_ _)); exact BK10128.out) hb); have n6_ := Aside0.mk (below_step (by repeat (first | (with_reducible first | exact HB.out | apply below_alloc | apply pw_below_drewN | apply below_drew1 | refine below_set ?_ GE10108.out | refine below_set ?_ GE10116.out | refine below_set ?_ GE10128.out) | exact HB.out)) hb); clear HO_10109003; clear HO_10117003; clear HO10126; clear BK10108; clear BK10116; clear BK10128; clear HB; have HO_10109003 := n0_; have HO_10117003 := n1_; have HO10126 := n2_; have BK10108 := n3_; have BK10116 := n4_; have BK10128 := n5_; have HB := n6_; clear n0_ n1_ n2_ n3_ n4_ n5_ n6_; (try clear hb); (try clear hb2); (try clear hk); (try clear hi)))
                go_meet
                case rel => exact ⟨_, ((t10127 != t10107)), (by first | rfl | (simp; done) | (simp [*]; done)), H', ⟨by have := HJ5.out; first | omega | exact Nat.le_refl _⟩, ⟨by (with_reducible repeat (first | apply Kd.R_alloc | apply Kd.R_drewN | apply Kd.R_drew)); exact HO_10109003.out⟩, ⟨by (with_reducible repeat (first | apply Kd.R_alloc | apply Kd.R_drewN | apply Kd.R_drew)); exact HO_10117003.out⟩, ⟨by (with_reducible repeat (first | apply Kd.R_alloc | apply Kd.R_drewN | apply Kd.R_drew)); exact Kd.R_mono HO10126.out (fun _ hk => ⟨hk.1.2, hk.2⟩)⟩, ⟨by (with_reducible repeat (first | refine blk_drewN ?_ _ | refine blk_drew ?_ | refine blk_alloc ?_ _)); exact BK10108.out⟩, ⟨by (with_reducible repeat (first | refine blk_drewN ?_ _ | refine blk_drew ?_ | refine blk_alloc ?_ _)); exact BK10116.out⟩, ⟨by (with_reducible repeat (first | refine blk_drewN ?_ _ | refine blk_drew ?_ | refine blk_alloc ?_ _)); exact BK10128.out⟩, ⟨by repeat (first | (with_reducible first | exact HB.out | apply below_alloc | apply pw_below_drewN | apply below_drew1 | refine below_set ?_ GE10108.out | refine below_set ?_ GE10116.out | refine below_set ?_ GE10128.out) | exact HB.out)⟩⟩
              · replace c50 := Bool.eq_false_iff.mpr c50
                subst c50
                have H1 : (laws_FnExactPlainBoard.j1 kj5 t10118 true t10109 t10110 t10111 t10119) = some r := by rw [if_neg (show ¬ (false = true) by decide)] at H; exact H
                clear H
                have H := H1
                clear H1
                have H' := Aside0.mk H
                clear H
                have hnb57 := NB10128_10108.out
                have hnc57 := NB10108_10128.out
                have hnb58 := NB10128_10116.out
                have hnc58 := NB10116_10128.out
                have hcz59_0 : w44.cell? ⟨gb10128, 0, none⟩ = some (.int .i64 0) := (blk_cell BK10128.out 0).trans rfl
                have hcz59_1 : w44.cell? ⟨gb10128, 1, none⟩ = some (.int .i64 0) := (blk_cell BK10128.out 1).trans rfl
                have hcz59_2 : w44.cell? ⟨gb10128, 2, none⟩ = some (.int .i64 0) := (blk_cell BK10128.out 2).trans rfl
                have hcz59_3 : w44.cell? ⟨gb10128, 3, none⟩ = some (.slice none 0 0) := (blk_cell BK10128.out 3).trans rfl
                have hfz59_0 := blk_frozen BK10128.out 0
                have hfz59_1 := blk_frozen BK10128.out 1
                have hfz59_2 := blk_frozen BK10128.out 2
                have hfz59_3 := blk_frozen BK10128.out 3
                have hnb60 := NB10108_10116.out
                have hnc60 := NB10116_10108.out
                have hcz61_0 : w44.cell? ⟨gb10108, 0, none⟩ = some (.int .i64 t10101) := (blk_cell BK10108.out 0).trans rfl
                have hcz61_1 : w44.cell? ⟨gb10108, 1, none⟩ = some (.int .i64 t10102) := (blk_cell BK10108.out 1).trans rfl
                have hcz61_2 : w44.cell? ⟨gb10108, 2, none⟩ = some (.int .i64 t10103) := (blk_cell BK10108.out 2).trans rfl
                have hcz61_3 : w44.cell? ⟨gb10108, 3, none⟩ = some (.slice Ao10 t10104.length co10) := (blk_cell BK10108.out 3).trans rfl
                have hfz61_0 := blk_frozen BK10108.out 0
                have hfz61_1 := blk_frozen BK10108.out 1
                have hfz61_2 := blk_frozen BK10108.out 2
                have hfz61_3 := blk_frozen BK10108.out 3
                go_wp2_with (first | ((with_reducible refine gate_callee (f := 42) rfl ?_); refine goesL_ (some 58) rfl rfl Try.func42 (by kernel_rfl) rfl #[.agg #[.int .i64 t10121, .int .i64 t10122, .int .i64 t10123, .slice Ao48 t10124.length co48], .agg #[.int .i64 t10101, .int .i64 t10102, .int .i64 t10103, .slice Ao10 t10104.length co10]] rfl (by (try simp only [List.map_toArray, List.map_cons, List.map_nil]); first | done | rfl | (simp only [List.length_drop, List.length_take]; rfl)) ?_; (with_reducible refine (laws_eqBoard.calls kj5 t10121 t10122 t10123 _ _ t10124 t10101 t10102 t10103 _ _ t10104 false _ ?side1 ?side2 ?side3 ?side4 A49.out).mono ?_); (case side1 => refine (Kd.R_reads' (e := 27) (base := w.heap.size) (ok := fun k_ => ((True ∧ some k_ ≠ (.slice Ao10 t10104.length co10 : Value).ownBlock) ∧ some k_ ≠ (.slice Ao15 t10112.length co15 : Value).ownBlock)) (n := t10124.length) (c := co48) ?_).2.2; exact (by (with_reducible repeat (first | apply Kd.R_alloc | apply Kd.R_drewN | apply Kd.R_drew)); exact (Kd.R_mono (Kd.R_far (p := ⟨gb10128, 3, none⟩) (Kd.R_far (p := ⟨gb10128, 2, none⟩) (Kd.R_far (p := ⟨gb10128, 1, none⟩) (Kd.R_far (p := ⟨gb10128, 0, none⟩) (Kd.R_types HO10126.out BK10128.out (by decide)) (fun _ hk => hk.2) (.int .i64 t10121)) (fun _ hk => hk.2) (.int .i64 t10122)) (fun _ hk => hk.2) (.int .i64 t10123)) (fun _ hk => hk.2) (.slice Ao48 t10124.length co48)) (fun _ h_ => h_.1)))); (case side2 => exact (Kd.R_reads' HO10126.out).2.1); (case side3 => refine (Kd.R_reads' (e := 27) (base := w.heap.size) (ok := fun k_ => (some k_ ≠ (.slice Ao15 t10112.length co15 : Value).ownBlock ∧ some k_ ≠ (.slice Ao48 t10124.length co48 : Value).ownBlock)) (n := t10104.length) (c := co10) ?_).2.2; exact (by (with_reducible repeat (first | apply Kd.R_alloc | apply Kd.R_drewN | apply Kd.R_drew)); exact (Kd.R_mono (Kd.R_far (p := ⟨gb10128, 3, none⟩) (Kd.R_far (p := ⟨gb10128, 2, none⟩) (Kd.R_far (p := ⟨gb10128, 1, none⟩) (Kd.R_far (p := ⟨gb10128, 0, none⟩) (Kd.R_types HO_10109003.out BK10128.out (by decide)) (fun _ hk => hk.2) (.int .i64 t10121)) (fun _ hk => hk.2) (.int .i64 t10122)) (fun _ hk => hk.2) (.int .i64 t10123)) (fun _ hk => hk.2) (.slice Ao48 t10124.length co48)) (fun _ h_ => h_.1)))); (case side4 => exact (Kd.R_reads' HO_10109003.out).2.1); rintro e w62 ⟨rfl, hb⟩; refine ⟨_, rfl, ?_⟩; have n0_ := Aside0.mk (Kd.R_below (by (with_reducible repeat (first | apply Kd.R_alloc | apply Kd.R_drewN | apply Kd.R_drew)); exact (Kd.R_mono (Kd.R_far (p := ⟨gb10128, 3, none⟩) (Kd.R_far (p := ⟨gb10128, 2, none⟩) (Kd.R_far (p := ⟨gb10128, 1, none⟩) (Kd.R_far (p := ⟨gb10128, 0, none⟩) (Kd.R_types HO_10109003.out BK10128.out (by decide)) (fun _ hk => hk.2) (.int .i64 t10121)) (fun _ hk => hk.2) (.int .i64 t10122)) (fun _ hk => hk.2) (.int .i64 t10123)) (fun _ hk => hk.2) (.slice Ao48 t10124.length co48)) (fun _ h_ => h_.1))) hb); have n1_ := Aside0.mk (Kd.R_below (by (with_reducible repeat (first | apply Kd.R_alloc | apply Kd.R_drewN | apply Kd.R_drew)); exact (Kd.R_mono (Kd.R_far (p := ⟨gb10128, 3, none⟩) (Kd.R_far (p := ⟨gb10128, 2, none⟩) (Kd.R_far (p := ⟨gb10128, 1, none⟩) (Kd.R_far (p := ⟨gb10128, 0, none⟩) (Kd.R_types HO_10117003.out BK10128.out (by decide)) (fun _ hk => hk.2) (.int .i64 t10121)) (fun _ hk => hk.2) (.int .i64 t10122)) (fun _ hk => hk.2) (.int .i64 t10123)) (fun _ hk => hk.2) (.slice Ao48 t10124.length co48)) (fun _ h_ => h_.1))) hb); have n2_ := Aside0.mk (Kd.R_below (by (with_reducible repeat (first | apply Kd.R_alloc | apply Kd.R_drewN | apply Kd.R_drew)); exact (Kd.R_mono (Kd.R_far (p := ⟨gb10128, 3, none⟩) (Kd.R_far (p := ⟨gb10128, 2, none⟩) (Kd.R_far (p := ⟨gb10128, 1, none⟩) (Kd.R_far (p := ⟨gb10128, 0, none⟩) (Kd.R_types HO10126.out BK10128.out (by decide)) (fun _ hk => hk.2) (.int .i64 t10121)) (fun _ hk => hk.2) (.int .i64 t10122)) (fun _ hk => hk.2) (.int .i64 t10123)) (fun _ hk => hk.2) (.slice Ao48 t10124.length co48)) (fun _ h_ => h_.1))) hb); have n3_ := Aside0.mk (blk_below (g := gb10108) (o := .cells #[.int .i64 t10101, .int .i64 t10102, .int .i64 t10103, .slice Ao10 t10104.length co10] 32 (0, 0)) (by (with_reducible repeat (first | refine blk_drewN ?_ _ | refine blk_drew ?_ | refine blk_alloc ?_ _)); refine blk_far ?_ NB10108_10128.out _; (with_reducible repeat (first | refine blk_drewN ?_ _ | refine blk_drew ?_ | refine blk_alloc ?_ _)); refine blk_far ?_ NB10108_10128.out _; (with_reducible repeat (first | refine blk_drewN ?_ _ | refine blk_drew ?_ | refine blk_alloc ?_ _)); refine blk_far ?_ NB10108_10128.out _; (with_reducible repeat (first | refine blk_drewN ?_ _ | refine blk_drew ?_ | refine blk_alloc ?_ _)); refine blk_far ?_ NB10108_10128.out _; (with_reducible repeat (first | refine blk_drewN ?_ _ | refine blk_drew ?_ | refine blk_alloc ?_ _)); exact BK10108.out) hb); have n4_ := Aside0.mk (blk_below (g := gb10116) (o := .cells #[.int .i64 t10109, .int .i64 t10110, .int .i64 t10111, .slice Ao15 t10112.length co15] 32 (0, 0)) (by (with_reducible repeat (first | refine blk_drewN ?_ _ | refine blk_drew ?_ | refine blk_alloc ?_ _)); refine blk_far ?_ NB10116_10128.out _; (with_reducible repeat (first | refine blk_drewN ?_ _ | refine blk_drew ?_ | refine blk_alloc ?_ _)); refine blk_far ?_ NB10116_10128.out _; (with_reducible repeat (first | refine blk_drewN ?_ _ | refine blk_drew ?_ | refine blk_alloc ?_ _)); refine blk_far ?_ NB10116_10128.out _; (with_reducible repeat (first | refine blk_drewN ?_ _ | refine blk_drew ?_ | refine blk_alloc ?_ _)); refine blk_far ?_ NB10116_10128.out _; (with_reducible repeat (first | refine blk_drewN ?_ _ | refine blk_drew ?_ | refine blk_alloc ?_ _)); exact BK10116.out) hb); have n5_ := Aside0.mk (blk_below (g := gb10128) (o := .cells #[.int .i64 t10121, .int .i64 t10122, .int .i64 t10123, .slice Ao48 t10124.length co48] 32 (0, 0)) (by (with_reducible repeat (first | refine blk_drewN ?_ _ | refine blk_drew ?_ | refine blk_alloc ?_ _)); refine blk_put (cs := #[.int .i64 t10121, .int .i64 t10122, .int .i64 t10123, .slice none 0 0]) ?_ 3 _ rfl; (with_reducible repeat (first | refine blk_drewN ?_ _ | refine blk_drew ?_ | refine blk_alloc ?_ _)); refine blk_put (cs := #[.int .i64 t10121, .int .i64 t10122, .int .i64 0, .slice none 0 0]) ?_ 2 _ rfl; (with_reducible repeat (first | refine blk_drewN ?_ _ | refine blk_drew ?_ | refine blk_alloc ?_ _)); refine blk_put (cs := #[.int .i64 t10121, .int .i64 0, .int .i64 0, .slice none 0 0]) ?_ 1 _ rfl; (with_reducible repeat (first | refine blk_drewN ?_ _ | refine blk_drew ?_ | refine blk_alloc ?_ _)); refine blk_put (cs := #[.int .i64 0, .int .i64 0, .int .i64 0, .slice none 0 0]) ?_ 0 _ rfl; (with_reducible repeat (first | refine blk_drewN ?_ _ | refine blk_drew ?_ | refine blk_alloc ?_ _)); exact BK10128.out) hb); have n6_ := Aside0.mk (below_step (by repeat (first | (with_reducible first | exact HB.out | apply below_alloc | apply pw_below_drewN | apply below_drew1 | refine below_set ?_ GE10108.out | refine below_set ?_ GE10116.out | refine below_set ?_ GE10128.out) | exact HB.out)) hb); clear HO_10109003; clear HO_10117003; clear HO10126; clear BK10108; clear BK10116; clear BK10128; clear HB; have HO_10109003 := n0_; have HO_10117003 := n1_; have HO10126 := n2_; have BK10108 := n3_; have BK10116 := n4_; have BK10128 := n5_; have HB := n6_; clear n0_ n1_ n2_ n3_ n4_ n5_ n6_; (try clear hb); (try clear hb2); (try clear hk); (try clear hi)))
                go_meet
                case rel => exact ⟨_, (true), (by first | rfl | (simp; done) | (simp [*]; done)), H', ⟨by have := HJ5.out; first | omega | exact Nat.le_refl _⟩, ⟨by (with_reducible repeat (first | apply Kd.R_alloc | apply Kd.R_drewN | apply Kd.R_drew)); exact HO_10109003.out⟩, ⟨by (with_reducible repeat (first | apply Kd.R_alloc | apply Kd.R_drewN | apply Kd.R_drew)); exact HO_10117003.out⟩, ⟨by (with_reducible repeat (first | apply Kd.R_alloc | apply Kd.R_drewN | apply Kd.R_drew)); exact Kd.R_mono HO10126.out (fun _ hk => ⟨hk.1.2, hk.2⟩)⟩, ⟨by (with_reducible repeat (first | refine blk_drewN ?_ _ | refine blk_drew ?_ | refine blk_alloc ?_ _)); exact BK10108.out⟩, ⟨by (with_reducible repeat (first | refine blk_drewN ?_ _ | refine blk_drew ?_ | refine blk_alloc ?_ _)); exact BK10116.out⟩, ⟨by (with_reducible repeat (first | refine blk_drewN ?_ _ | refine blk_drew ?_ | refine blk_alloc ?_ _)); exact BK10128.out⟩, ⟨by repeat (first | (with_reducible first | exact HB.out | apply below_alloc | apply pw_below_drewN | apply below_drew1 | refine below_set ?_ GE10108.out | refine below_set ?_ GE10116.out | refine below_set ?_ GE10128.out) | exact HB.out)⟩⟩
            case rest =>
              clear HC37
              try clear c1
              try clear c2
              try clear p2
              try clear c3
              try clear c4
              try clear c5
              try clear c6
              try clear c13
              try clear c17
              try clear c18
              try clear c22
              try clear c26
              try clear c29
              try clear c29b0
              try clear c30
              try clear c35
              try clear c35b0
              try clear c35b1
              try clear c38
              try clear c42
              try clear c45
              try clear c46
              try clear c47
              try clear c48
              try clear c50
              try clear c51
              try clear c52
              try clear c54
              try clear c57
              try clear c58
              try clear c60
              try clear hcz14_0
              try clear hcz14_1
              try clear hcz14_2
              try clear hcz14_3
              try clear hcz19_0
              try clear hcz19_1
              try clear hcz19_2
              try clear hcz19_3
              try clear hcz20_0
              try clear hcz20_1
              try clear hcz20_2
              try clear hcz20_3
              try clear hcz23_0
              try clear hcz23_1
              try clear hcz23_2
              try clear hcz23_3
              try clear hcz24_0
              try clear hcz24_1
              try clear hcz24_2
              try clear hcz24_3
              try clear hcz31_0
              try clear hcz31_1
              try clear hcz31_2
              try clear hcz31_3
              try clear hcz33_0
              try clear hcz33_1
              try clear hcz33_2
              try clear hcz33_3
              try clear hcz39_0
              try clear hcz39_1
              try clear hcz39_2
              try clear hcz39_3
              try clear hcz41_0
              try clear hcz41_1
              try clear hcz41_2
              try clear hcz41_3
              try clear hcz47_0
              try clear hcz47_1
              try clear hcz47_2
              try clear hcz47_3
              try clear hcz53_0
              try clear hcz53_1
              try clear hcz53_2
              try clear hcz53_3
              try clear hcz55_0
              try clear hcz55_1
              try clear hcz55_2
              try clear hcz55_3
              try clear hcz59_0
              try clear hcz59_1
              try clear hcz59_2
              try clear hcz59_3
              try clear hcz61_0
              try clear hcz61_1
              try clear hcz61_2
              try clear hcz61_3
              try clear hcz9_0
              try clear hcz9_1
              try clear hcz9_2
              try clear hcz9_3
              try clear hfz14_0
              try clear hfz14_1
              try clear hfz14_2
              try clear hfz14_3
              try clear hfz19_0
              try clear hfz19_1
              try clear hfz19_2
              try clear hfz19_3
              try clear hfz20_0
              try clear hfz20_1
              try clear hfz20_2
              try clear hfz20_3
              try clear hfz23_0
              try clear hfz23_1
              try clear hfz23_2
              try clear hfz23_3
              try clear hfz24_0
              try clear hfz24_1
              try clear hfz24_2
              try clear hfz24_3
              try clear hfz31_0
              try clear hfz31_1
              try clear hfz31_2
              try clear hfz31_3
              try clear hfz33_0
              try clear hfz33_1
              try clear hfz33_2
              try clear hfz33_3
              try clear hfz39_0
              try clear hfz39_1
              try clear hfz39_2
              try clear hfz39_3
              try clear hfz41_0
              try clear hfz41_1
              try clear hfz41_2
              try clear hfz41_3
              try clear hfz47_0
              try clear hfz47_1
              try clear hfz47_2
              try clear hfz47_3
              try clear hfz53_0
              try clear hfz53_1
              try clear hfz53_2
              try clear hfz53_3
              try clear hfz55_0
              try clear hfz55_1
              try clear hfz55_2
              try clear hfz55_3
              try clear hfz59_0
              try clear hfz59_1
              try clear hfz59_2
              try clear hfz59_3
              try clear hfz61_0
              try clear hfz61_1
              try clear hfz61_2
              try clear hfz61_3
              try clear hfz9_0
              try clear hfz9_1
              try clear hfz9_2
              try clear hfz9_3
              try clear p2
              obtain ⟨kq, x64_36, rfl, HA, HJ36, HO_10109003, HO_10117003, HO_10129003, BK10108, BK10116, BK10128, HB⟩ := hcut
              have hl10117003_36 := (Kd.R_reads' HO_10117003.out).1
              rw [hl10117003_36] at HO_10117003
              (try simp only [hl10117003_36])
              (try simp only [hl10117003_36] at BK10108)
              (try simp only [hl10117003_36] at BK10116)
              (try simp only [hl10117003_36] at BK10128)
              (try simp only [hl10117003_36] at HO_10109003)
              (try simp only [hl10117003_36] at HO_10129003)
              cases kq with
              | zero => exact absurd HA.out (by simp [laws_FnExactPlainBoard.j1])
              | succ kj36 =>
                have H := HA.out
                clear HA
                simp only [laws_FnExactPlainBoard.j1] at H
                by_cases c63 : x64_36 = true
                · subst c63
                  have H1 : (some false) = some r := by rw [if_pos rfl] at H; exact H
                  clear H
                  have H := H1
                  clear H1
                  obtain rfl := Option.some.inj H
                  go_wp2
                  go_ret
                  exact ⟨by first | rfl | (simp [errW_none, errW_some] <;> rfl) | (simp [*, errW_none, errW_some] <;> rfl), by repeat (first | (with_reducible first | exact HB.out | apply below_alloc | apply pw_below_drewN | apply below_drew1 | refine below_set ?_ GE10108.out | refine below_set ?_ GE10116.out | refine below_set ?_ GE10128.out) | exact HB.out)⟩
                · replace c63 := Bool.eq_false_iff.mpr c63
                  subst c63
                  have H1 : ((laws_heldBoard.f kj36 t10109 t10110 t10111 t10119 1).bind fun t10130 => (if t10130 < 0 then (some false) else (if t10130 = t10118 then (some true) else (some false)))) = some r := by rw [if_neg (show ¬ (false = true) by decide)] at H; exact H
                  clear H
                  have H := H1
                  clear H1
                  replace H := Option.bind_eq_some_iff.mp H
                  obtain ⟨t10130, A640, H⟩ := H
                  replace H : (if t10130 < 0 then (some false) else (if t10130 = t10118 then (some true) else (some false))) = some r := H
                  have A64 := Aside0.mk A640
                  clear A640
                  by_cases c65 : t10130 < 0
                  · rw [if_pos c65] at H
                    have c65b0 : decide (t10130 < 0) = true := decide_eq_true c65
                    clear c65
                    obtain rfl := Option.some.inj H
                    have hnb66 := NB10116_10108.out
                    have hnc66 := NB10108_10116.out
                    have hnb67 := NB10116_10128.out
                    have hnc67 := NB10128_10116.out
                    have hcz68_0 : wc.cell? ⟨gb10116, 0, none⟩ = some (.int .i64 t10109) := (blk_cell BK10116.out 0).trans rfl
                    have hcz68_1 : wc.cell? ⟨gb10116, 1, none⟩ = some (.int .i64 t10110) := (blk_cell BK10116.out 1).trans rfl
                    have hcz68_2 : wc.cell? ⟨gb10116, 2, none⟩ = some (.int .i64 t10111) := (blk_cell BK10116.out 2).trans rfl
                    have hcz68_3 : wc.cell? ⟨gb10116, 3, none⟩ = some (.slice Ao15 t10119.length co15) := (blk_cell BK10116.out 3).trans rfl
                    have hfz68_0 := blk_frozen BK10116.out 0
                    have hfz68_1 := blk_frozen BK10116.out 1
                    have hfz68_2 := blk_frozen BK10116.out 2
                    have hfz68_3 := blk_frozen BK10116.out 3
                    go_wp2_with (first | ((with_reducible refine gate_callee (f := 48) rfl ?_); refine goesL_ (some 67) rfl rfl Try.func48 (by kernel_rfl) rfl #[.agg #[.int .i64 t10109, .int .i64 t10110, .int .i64 t10111, .slice Ao15 t10119.length co15], .int .i64 1] rfl (by (try simp only [List.map_toArray, List.map_cons, List.map_nil]); first | done | rfl | (simp only [List.length_drop, List.length_take]; rfl)) ?_; (with_reducible refine (laws_heldBoard.calls kj36 t10109 t10110 t10111 _ _ t10119 1 t10130 _ ?side1 ?side2 A64.out).mono ?_); (case side1 => repeat (first | exact (Kd.R_reads' HO_10117003.out).2.2 | (with_reducible refine Kd.C_alloc ?_ _) | (with_reducible refine Kd.C_drewN ?_ _) | (with_reducible refine Kd.C_drew ?_))); (case side2 => exact (Kd.R_reads' HO_10117003.out).2.1); rintro e w69 ⟨rfl, hb⟩; refine ⟨_, rfl, ?_⟩; have n0_ := Aside0.mk (Kd.R_below (by (with_reducible repeat (first | apply Kd.R_alloc | apply Kd.R_drewN | apply Kd.R_drew)); exact HO_10109003.out) hb); have n1_ := Aside0.mk (Kd.R_below (by (with_reducible repeat (first | apply Kd.R_alloc | apply Kd.R_drewN | apply Kd.R_drew)); exact HO_10117003.out) hb); have n2_ := Aside0.mk (Kd.R_below (by (with_reducible repeat (first | apply Kd.R_alloc | apply Kd.R_drewN | apply Kd.R_drew)); exact HO_10129003.out) hb); have n3_ := Aside0.mk (blk_below (g := gb10108) (o := .cells #[.int .i64 t10101, .int .i64 t10102, .int .i64 t10103, .slice Ao10 t10104.length co10] 32 (0, 0)) (by (with_reducible repeat (first | refine blk_drewN ?_ _ | refine blk_drew ?_ | refine blk_alloc ?_ _)); exact BK10108.out) hb); have n4_ := Aside0.mk (blk_below (g := gb10116) (o := .cells #[.int .i64 t10109, .int .i64 t10110, .int .i64 t10111, .slice Ao15 t10119.length co15] 32 (0, 0)) (by (with_reducible repeat (first | refine blk_drewN ?_ _ | refine blk_drew ?_ | refine blk_alloc ?_ _)); exact BK10116.out) hb); have n5_ := Aside0.mk (blk_below (g := gb10128) (o := .cells #[.int .i64 t10121, .int .i64 t10122, .int .i64 t10123, .slice Ao48 t10124.length co48] 32 (0, 0)) (by (with_reducible repeat (first | refine blk_drewN ?_ _ | refine blk_drew ?_ | refine blk_alloc ?_ _)); exact BK10128.out) hb); have n6_ := Aside0.mk (below_step (by repeat (first | (with_reducible first | exact HB.out | apply below_alloc | apply pw_below_drewN | apply below_drew1 | refine below_set ?_ GE10108.out | refine below_set ?_ GE10116.out | refine below_set ?_ GE10128.out) | exact HB.out)) hb); clear HO_10109003; clear HO_10117003; clear HO_10129003; clear BK10108; clear BK10116; clear BK10128; clear HB; have HO_10109003 := n0_; have HO_10117003 := n1_; have HO_10129003 := n2_; have BK10108 := n3_; have BK10116 := n4_; have BK10128 := n5_; have HB := n6_; clear n0_ n1_ n2_ n3_ n4_ n5_ n6_; (try clear hb); (try clear hb2); (try clear hk); (try clear hi)))
                    go_ret
                    exact ⟨by first | rfl | (simp [errW_none, errW_some] <;> rfl) | (simp [*, errW_none, errW_some] <;> rfl), by repeat (first | (with_reducible first | exact HB.out | apply below_alloc | apply pw_below_drewN | apply below_drew1 | refine below_set ?_ GE10108.out | refine below_set ?_ GE10116.out | refine below_set ?_ GE10128.out) | exact HB.out)⟩
                  · rw [if_neg c65] at H
                    have c65b0 : decide (t10130 < 0) = false := decide_eq_false c65
                    clear c65
                    by_cases c70 : t10130 = t10118
                    · rw [if_pos c70] at H
                      have c70b0 : (t10130 == t10118) = true := beq_iff_eq.mpr c70
                      have c70b1 : (t10130 != t10118) = false := bne_eq_false_iff_eq.mpr c70
                      clear c70
                      obtain rfl := Option.some.inj H
                      have hnb71 := NB10116_10108.out
                      have hnc71 := NB10108_10116.out
                      have hnb72 := NB10116_10128.out
                      have hnc72 := NB10128_10116.out
                      have hcz73_0 : wc.cell? ⟨gb10116, 0, none⟩ = some (.int .i64 t10109) := (blk_cell BK10116.out 0).trans rfl
                      have hcz73_1 : wc.cell? ⟨gb10116, 1, none⟩ = some (.int .i64 t10110) := (blk_cell BK10116.out 1).trans rfl
                      have hcz73_2 : wc.cell? ⟨gb10116, 2, none⟩ = some (.int .i64 t10111) := (blk_cell BK10116.out 2).trans rfl
                      have hcz73_3 : wc.cell? ⟨gb10116, 3, none⟩ = some (.slice Ao15 t10119.length co15) := (blk_cell BK10116.out 3).trans rfl
                      have hfz73_0 := blk_frozen BK10116.out 0
                      have hfz73_1 := blk_frozen BK10116.out 1
                      have hfz73_2 := blk_frozen BK10116.out 2
                      have hfz73_3 := blk_frozen BK10116.out 3
                      go_wp2_with (first | ((with_reducible refine gate_callee (f := 48) rfl ?_); refine goesL_ (some 67) rfl rfl Try.func48 (by kernel_rfl) rfl #[.agg #[.int .i64 t10109, .int .i64 t10110, .int .i64 t10111, .slice Ao15 t10119.length co15], .int .i64 1] rfl (by (try simp only [List.map_toArray, List.map_cons, List.map_nil]); first | done | rfl | (simp only [List.length_drop, List.length_take]; rfl)) ?_; (with_reducible refine (laws_heldBoard.calls kj36 t10109 t10110 t10111 _ _ t10119 1 t10130 _ ?side1 ?side2 A64.out).mono ?_); (case side1 => repeat (first | exact (Kd.R_reads' HO_10117003.out).2.2 | (with_reducible refine Kd.C_alloc ?_ _) | (with_reducible refine Kd.C_drewN ?_ _) | (with_reducible refine Kd.C_drew ?_))); (case side2 => exact (Kd.R_reads' HO_10117003.out).2.1); rintro e w74 ⟨rfl, hb⟩; refine ⟨_, rfl, ?_⟩; have n0_ := Aside0.mk (Kd.R_below (by (with_reducible repeat (first | apply Kd.R_alloc | apply Kd.R_drewN | apply Kd.R_drew)); exact HO_10109003.out) hb); have n1_ := Aside0.mk (Kd.R_below (by (with_reducible repeat (first | apply Kd.R_alloc | apply Kd.R_drewN | apply Kd.R_drew)); exact HO_10117003.out) hb); have n2_ := Aside0.mk (Kd.R_below (by (with_reducible repeat (first | apply Kd.R_alloc | apply Kd.R_drewN | apply Kd.R_drew)); exact HO_10129003.out) hb); have n3_ := Aside0.mk (blk_below (g := gb10108) (o := .cells #[.int .i64 t10101, .int .i64 t10102, .int .i64 t10103, .slice Ao10 t10104.length co10] 32 (0, 0)) (by (with_reducible repeat (first | refine blk_drewN ?_ _ | refine blk_drew ?_ | refine blk_alloc ?_ _)); exact BK10108.out) hb); have n4_ := Aside0.mk (blk_below (g := gb10116) (o := .cells #[.int .i64 t10109, .int .i64 t10110, .int .i64 t10111, .slice Ao15 t10119.length co15] 32 (0, 0)) (by (with_reducible repeat (first | refine blk_drewN ?_ _ | refine blk_drew ?_ | refine blk_alloc ?_ _)); exact BK10116.out) hb); have n5_ := Aside0.mk (blk_below (g := gb10128) (o := .cells #[.int .i64 t10121, .int .i64 t10122, .int .i64 t10123, .slice Ao48 t10124.length co48] 32 (0, 0)) (by (with_reducible repeat (first | refine blk_drewN ?_ _ | refine blk_drew ?_ | refine blk_alloc ?_ _)); exact BK10128.out) hb); have n6_ := Aside0.mk (below_step (by repeat (first | (with_reducible first | exact HB.out | apply below_alloc | apply pw_below_drewN | apply below_drew1 | refine below_set ?_ GE10108.out | refine below_set ?_ GE10116.out | refine below_set ?_ GE10128.out) | exact HB.out)) hb); clear HO_10109003; clear HO_10117003; clear HO_10129003; clear BK10108; clear BK10116; clear BK10128; clear HB; have HO_10109003 := n0_; have HO_10117003 := n1_; have HO_10129003 := n2_; have BK10108 := n3_; have BK10116 := n4_; have BK10128 := n5_; have HB := n6_; clear n0_ n1_ n2_ n3_ n4_ n5_ n6_; (try clear hb); (try clear hb2); (try clear hk); (try clear hi)))
                      go_ret
                      exact ⟨by first | rfl | (simp [errW_none, errW_some] <;> rfl) | (simp [*, errW_none, errW_some] <;> rfl), by repeat (first | (with_reducible first | exact HB.out | apply below_alloc | apply pw_below_drewN | apply below_drew1 | refine below_set ?_ GE10108.out | refine below_set ?_ GE10116.out | refine below_set ?_ GE10128.out) | exact HB.out)⟩
                    · rw [if_neg c70] at H
                      have c70b0 : (t10130 == t10118) = false := beq_eq_false_iff_ne.mpr c70
                      have c70b1 : (t10130 != t10118) = true := bne_iff_ne.mpr c70
                      obtain rfl := Option.some.inj H
                      have hnb75 := NB10116_10108.out
                      have hnc75 := NB10108_10116.out
                      have hnb76 := NB10116_10128.out
                      have hnc76 := NB10128_10116.out
                      have hcz77_0 : wc.cell? ⟨gb10116, 0, none⟩ = some (.int .i64 t10109) := (blk_cell BK10116.out 0).trans rfl
                      have hcz77_1 : wc.cell? ⟨gb10116, 1, none⟩ = some (.int .i64 t10110) := (blk_cell BK10116.out 1).trans rfl
                      have hcz77_2 : wc.cell? ⟨gb10116, 2, none⟩ = some (.int .i64 t10111) := (blk_cell BK10116.out 2).trans rfl
                      have hcz77_3 : wc.cell? ⟨gb10116, 3, none⟩ = some (.slice Ao15 t10119.length co15) := (blk_cell BK10116.out 3).trans rfl
                      have hfz77_0 := blk_frozen BK10116.out 0
                      have hfz77_1 := blk_frozen BK10116.out 1
                      have hfz77_2 := blk_frozen BK10116.out 2
                      have hfz77_3 := blk_frozen BK10116.out 3
                      go_wp2_with (first | ((with_reducible refine gate_callee (f := 48) rfl ?_); refine goesL_ (some 67) rfl rfl Try.func48 (by kernel_rfl) rfl #[.agg #[.int .i64 t10109, .int .i64 t10110, .int .i64 t10111, .slice Ao15 t10119.length co15], .int .i64 1] rfl (by (try simp only [List.map_toArray, List.map_cons, List.map_nil]); first | done | rfl | (simp only [List.length_drop, List.length_take]; rfl)) ?_; (with_reducible refine (laws_heldBoard.calls kj36 t10109 t10110 t10111 _ _ t10119 1 t10130 _ ?side1 ?side2 A64.out).mono ?_); (case side1 => repeat (first | exact (Kd.R_reads' HO_10117003.out).2.2 | (with_reducible refine Kd.C_alloc ?_ _) | (with_reducible refine Kd.C_drewN ?_ _) | (with_reducible refine Kd.C_drew ?_))); (case side2 => exact (Kd.R_reads' HO_10117003.out).2.1); rintro e w78 ⟨rfl, hb⟩; refine ⟨_, rfl, ?_⟩; have n0_ := Aside0.mk (Kd.R_below (by (with_reducible repeat (first | apply Kd.R_alloc | apply Kd.R_drewN | apply Kd.R_drew)); exact HO_10109003.out) hb); have n1_ := Aside0.mk (Kd.R_below (by (with_reducible repeat (first | apply Kd.R_alloc | apply Kd.R_drewN | apply Kd.R_drew)); exact HO_10117003.out) hb); have n2_ := Aside0.mk (Kd.R_below (by (with_reducible repeat (first | apply Kd.R_alloc | apply Kd.R_drewN | apply Kd.R_drew)); exact HO_10129003.out) hb); have n3_ := Aside0.mk (blk_below (g := gb10108) (o := .cells #[.int .i64 t10101, .int .i64 t10102, .int .i64 t10103, .slice Ao10 t10104.length co10] 32 (0, 0)) (by (with_reducible repeat (first | refine blk_drewN ?_ _ | refine blk_drew ?_ | refine blk_alloc ?_ _)); exact BK10108.out) hb); have n4_ := Aside0.mk (blk_below (g := gb10116) (o := .cells #[.int .i64 t10109, .int .i64 t10110, .int .i64 t10111, .slice Ao15 t10119.length co15] 32 (0, 0)) (by (with_reducible repeat (first | refine blk_drewN ?_ _ | refine blk_drew ?_ | refine blk_alloc ?_ _)); exact BK10116.out) hb); have n5_ := Aside0.mk (blk_below (g := gb10128) (o := .cells #[.int .i64 t10121, .int .i64 t10122, .int .i64 t10123, .slice Ao48 t10124.length co48] 32 (0, 0)) (by (with_reducible repeat (first | refine blk_drewN ?_ _ | refine blk_drew ?_ | refine blk_alloc ?_ _)); exact BK10128.out) hb); have n6_ := Aside0.mk (below_step (by repeat (first | (with_reducible first | exact HB.out | apply below_alloc | apply pw_below_drewN | apply below_drew1 | refine below_set ?_ GE10108.out | refine below_set ?_ GE10116.out | refine below_set ?_ GE10128.out) | exact HB.out)) hb); clear HO_10109003; clear HO_10117003; clear HO_10129003; clear BK10108; clear BK10116; clear BK10128; clear HB; have HO_10109003 := n0_; have HO_10117003 := n1_; have HO_10129003 := n2_; have BK10108 := n3_; have BK10116 := n4_; have BK10128 := n5_; have HB := n6_; clear n0_ n1_ n2_ n3_ n4_ n5_ n6_; (try clear hb); (try clear hb2); (try clear hk); (try clear hi)))
                      go_ret
                      exact ⟨by first | rfl | (simp [errW_none, errW_some] <;> rfl) | (simp [*, errW_none, errW_some] <;> rfl), by repeat (first | (with_reducible first | exact HB.out | apply below_alloc | apply pw_below_drewN | apply below_drew1 | refine below_set ?_ GE10108.out | refine below_set ?_ GE10116.out | refine below_set ?_ GE10128.out) | exact HB.out)⟩
          · rw [if_neg c35] at H
            have c35b0 : (t10120 == t10118) = false := beq_eq_false_iff_ne.mpr c35
            have c35b1 : (t10120 != t10118) = true := bne_iff_ne.mpr c35
            obtain rfl := Option.some.inj H
            have hnb79 := NB10116_10108.out
            have hnc79 := NB10108_10116.out
            have hcz80_0 : wc.cell? ⟨gb10116, 0, none⟩ = some (.int .i64 t10109) := (blk_cell BK10116.out 0).trans rfl
            have hcz80_1 : wc.cell? ⟨gb10116, 1, none⟩ = some (.int .i64 t10110) := (blk_cell BK10116.out 1).trans rfl
            have hcz80_2 : wc.cell? ⟨gb10116, 2, none⟩ = some (.int .i64 t10111) := (blk_cell BK10116.out 2).trans rfl
            have hcz80_3 : wc.cell? ⟨gb10116, 3, none⟩ = some (.slice Ao15 t10112.length co15) := (blk_cell BK10116.out 3).trans rfl
            have hfz80_0 := blk_frozen BK10116.out 0
            have hfz80_1 := blk_frozen BK10116.out 1
            have hfz80_2 := blk_frozen BK10116.out 2
            have hfz80_3 := blk_frozen BK10116.out 3
            go_wp2_with (first | ((with_reducible refine gate_callee (f := 47) rfl ?_); refine goesL_ (some 40) rfl rfl Try.func47 (by kernel_rfl) rfl #[.agg #[.int .i64 t10109, .int .i64 t10110, .int .i64 t10111, .slice Ao15 t10112.length co15], .int .i64 1] rfl (by (try simp only [List.map_toArray, List.map_cons, List.map_nil]); first | done | rfl | (simp only [List.length_drop, List.length_take]; rfl)) ?_; (with_reducible refine (laws_markBoard.calls kj5 t10109 t10110 t10111 (fun k_ => some k_ = (.slice Ao15 t10112.length co15 : Value).ownBlock) (.slice Ao15 t10112.length co15) t10112 1 t10118 t10119 w _ ?side1 ?side2 A27.out).mono ?_); (case side1 => repeat (first | (with_reducible first | exact HB.out | apply below_alloc | apply pw_below_drewN | apply below_drew1 | refine below_set ?_ GE10108.out | refine below_set ?_ GE10116.out) | exact HB.out)); (case side2 => exact Kd.R_tight rfl HO_10117003.out); rintro e w81 ⟨rfl, hy0, hb, hkp⟩; refine ⟨_, rfl, ?_⟩; have n0_ := Aside0.mk (Kd.R_mono (ok' := fun k_ => some k_ ≠ (.slice Ao15 t10112.length co15 : Value).ownBlock) (Kd.R_keptB (HO_10109003.out) hkp (fun k_ hk_ hs_ => (hk_) hs_)) (fun k_ hk_ => hk_.1)); have n1_ := Aside0.mk (Kd.R_reok rfl hy0 (fun k_ e_ => HO_10117003.out.1 k_ e_)); have n2_ := Aside0.mk (blk_kept (by (with_reducible repeat (first | refine blk_drewN ?_ _ | refine blk_drew ?_ | refine blk_alloc ?_ _)); exact BK10108.out) hkp (fun hs_ => (fun e_ => (Kd.R_ne HO_10117003.out BK10108.out (by decide)) e_) hs_)); have n3_ := Aside0.mk (blk_kept (by (with_reducible repeat (first | refine blk_drewN ?_ _ | refine blk_drew ?_ | refine blk_alloc ?_ _)); exact BK10116.out) hkp (fun hs_ => (fun e_ => (Kd.R_ne HO_10117003.out BK10116.out (by decide)) e_) hs_)); have n4_ := Aside0.mk (hb); clear HO_10109003; clear HO_10117003; clear BK10108; clear BK10116; clear HB; have HO_10109003 := n0_; have HO_10117003 := n1_; have BK10108 := n2_; have BK10116 := n3_; have HB := n4_; clear n0_ n1_ n2_ n3_ n4_; (try clear hb); (try clear hkp); (try clear hy0); have hcz82_0 : w81.cell? ⟨gb10116, 0, none⟩ = some (.int .i64 t10109) := (blk_cell BK10116.out 0).trans rfl; have hcz82_1 : w81.cell? ⟨gb10116, 1, none⟩ = some (.int .i64 t10110) := (blk_cell BK10116.out 1).trans rfl; have hcz82_2 : w81.cell? ⟨gb10116, 2, none⟩ = some (.int .i64 t10111) := (blk_cell BK10116.out 2).trans rfl; have hcz82_3 : w81.cell? ⟨gb10116, 3, none⟩ = some (.slice Ao15 t10112.length co15) := (blk_cell BK10116.out 3).trans rfl; have hfz82_0 := blk_frozen BK10116.out 0; have hfz82_1 := blk_frozen BK10116.out 1; have hfz82_2 := blk_frozen BK10116.out 2; have hfz82_3 := blk_frozen BK10116.out 3) | ((with_reducible refine gate_callee (f := 48) rfl ?_); refine goesL_ (some 43) rfl rfl Try.func48 (by kernel_rfl) rfl #[.agg #[.int .i64 t10109, .int .i64 t10110, .int .i64 t10111, .slice Ao15 t10119.length co15], .int .i64 1] rfl (by (try simp only [List.map_toArray, List.map_cons, List.map_nil]); first | done | (rw [show t10119.length = t10112.length from (Kd.R_reads' HO_10117003.out).1.symm] <;> rfl) | rfl | (simp only [List.length_drop, List.length_take]; rfl)) ?_; (with_reducible refine (laws_heldBoard.calls kj5 t10109 t10110 t10111 _ _ t10119 1 t10120 _ ?side1 ?side2 A28.out).mono ?_); (case side1 => repeat (first | exact (Kd.R_reads' HO_10117003.out).2.2 | (with_reducible refine Kd.C_alloc ?_ _) | (with_reducible refine Kd.C_drewN ?_ _) | (with_reducible refine Kd.C_drew ?_))); (case side2 => rw [show t10119.length = t10112.length from (Kd.R_reads' HO_10117003.out).1.symm]; exact (Kd.R_reads' HO_10117003.out).2.1); rintro e w83 ⟨rfl, hb⟩; refine ⟨_, rfl, ?_⟩; have n0_ := Aside0.mk (Kd.R_below (by (with_reducible repeat (first | apply Kd.R_alloc | apply Kd.R_drewN | apply Kd.R_drew)); exact HO_10109003.out) hb); have n1_ := Aside0.mk (Kd.R_below (by (with_reducible repeat (first | apply Kd.R_alloc | apply Kd.R_drewN | apply Kd.R_drew)); exact HO_10117003.out) hb); have n2_ := Aside0.mk (blk_below (g := gb10108) (o := .cells #[.int .i64 t10101, .int .i64 t10102, .int .i64 t10103, .slice Ao10 t10104.length co10] 32 (0, 0)) (by (with_reducible repeat (first | refine blk_drewN ?_ _ | refine blk_drew ?_ | refine blk_alloc ?_ _)); exact BK10108.out) hb); have n3_ := Aside0.mk (blk_below (g := gb10116) (o := .cells #[.int .i64 t10109, .int .i64 t10110, .int .i64 t10111, .slice Ao15 t10112.length co15] 32 (0, 0)) (by (with_reducible repeat (first | refine blk_drewN ?_ _ | refine blk_drew ?_ | refine blk_alloc ?_ _)); exact BK10116.out) hb); have n4_ := Aside0.mk (below_step (by repeat (first | (with_reducible first | exact HB.out | apply below_alloc | apply pw_below_drewN | apply below_drew1 | refine below_set ?_ GE10108.out | refine below_set ?_ GE10116.out) | exact HB.out)) hb); clear HO_10109003; clear HO_10117003; clear BK10108; clear BK10116; clear HB; have HO_10109003 := n0_; have HO_10117003 := n1_; have BK10108 := n2_; have BK10116 := n3_; have HB := n4_; clear n0_ n1_ n2_ n3_ n4_; (try clear hb); (try clear hb2); (try clear hk); (try clear hi)))
            go_ret
            exact ⟨by first | rfl | (simp [errW_none, errW_some] <;> rfl) | (simp [*, errW_none, errW_some] <;> rfl), by repeat (first | (with_reducible first | exact HB.out | apply below_alloc | apply pw_below_drewN | apply below_drew1 | refine below_set ?_ GE10108.out | refine below_set ?_ GE10116.out) | exact HB.out)⟩

/-- THE ONE PURE STATEMENT of laws_FnExactPlainBoard: yours. -/
def laws_FnExactPlainBoard.Pure : Prop := ∀ (a0 : Int) (a1 : Int) (a2 : Int), (Lit.int .i64 a0).wf = true → (Lit.int .i64 a1).wf = true → (Lit.int .i64 a2).wf = true → ∃ k, laws_FnExactPlainBoard.f k a0 a1 a2 = some true
theorem laws_FnExactPlainBoard.walk (P : laws_FnExactPlainBoard.Pure) (a0 : Int) (a1 : Int) (a2 : Int) (w : World) (w0 : (Lit.int .i64 a0).wf = true) (w1 : (Lit.int .i64 a1).wf = true) (w2 : (Lit.int .i64 a2).wf = true) :
    Calls Try.prog 5 #[.int .i64 a0, .int .i64 a1, .int .i64 a2] w fun e w' => e = .returned (.bool true) ∧ Below w.heap.size w w' := by
  obtain ⟨k, h⟩ := P a0 a1 a2 w0 w1 w2
  refine (laws_FnExactPlainBoard.calls k a0 a1 a2 true w h).mono ?_
  rintro e w' ⟨rfl, hd⟩
  exact ⟨rfl, hd⟩

end Go.Proofs.Ytkobjjadojpjfaa.Pr
