-- A text of the machine side, written by wip/gen.py of this repo out of the translation. Not trusted: Lean checks it.
import Derived.Test.YtkobjjadojpjfaaF0
import Derived.Test.YtkobjjadojpjfaaFGA
import Derived.Test.YtkobjjadojpjfaaFGD
namespace Go.Proofs.Ytkobjjadojpjfaa.Pr
open Go.RowKit Go.Proofs.YtkobjjadojpjfaaW.PrintWords Go.Proofs.YtkobjjadojpjfaaW.PrintLast Go.Proofs.YtkobjjadojpjfaaW.PrintMore
attribute [local go_sem] max2_int min2_int max_two min_two max_three min_three max_four min_four   -- for this text's walks alone
set_option linter.unusedVariables false
set_option linter.unusedSimpArgs false

/-! ### laws_FnExactFacesTo: function 10 -/
def laws_FnExactFacesTo.j0 : Nat → Bool → Int → Int → Int → List (S82) → Int → Int → Int → List (S27) → Option (Bool)
  | 0, _, _, _, _, _, _, _, _, _ => none
  | k + 1, x42, x20102000, x20102001, x20102002, x20102003, x20118000, x20118001, x20118002, x20118003 => if x42 = true then (some false) else ((laws_toBoard.f k x20102000 x20102001 x20102002 x20102003).bind fun bt20120 => ((laws_eqBoard.f k x20118000 x20118001 x20118002 x20118003 bt20120.1 bt20120.2.1 bt20120.2.2.1 bt20120.2.2.2).bind fun t20126 => (if t20126 = true then (some true) else (some false))))
def laws_FnExactFacesTo.f (k : Nat) (a0_0 : Int) (a0_1 : Int) (a0_2 : Int) (l0_3 : List (S82)) (a1 : Int) (a2 : Int) : Option (Bool) := (laws_szBoard.f a0_0 a0_1 a0_2 l0_3 1048576).bind fun t20102 => (if t20102 < 0 then (some true) else ((laws_toBoard.f k a0_0 a0_1 a0_2 l0_3).bind fun bt20103 => ((spec_FacesTo.f k bt20103.1 bt20103.2.1 bt20103.2.2.1 bt20103.2.2.2 a1 a2).bind fun bt20109 => ((laws_toBoard.f k a0_0 a0_1 a0_2 l0_3).bind fun bt20111 => ((impl_FacesTo.f k bt20111.1 bt20111.2.1 bt20111.2.2.1 bt20111.2.2.2 a1 a2).bind fun bt20118 => (if bt20118.1 = bt20109.1 then (laws_FnExactFacesTo.j0 k (bt20118.2 != bt20109.2) a0_0 a0_1 a0_2 l0_3 bt20111.1 bt20111.2.1 bt20111.2.2.1 bt20111.2.2.2) else (laws_FnExactFacesTo.j0 k true a0_0 a0_1 a0_2 l0_3 bt20111.1 bt20111.2.1 bt20111.2.2.1 bt20111.2.2.2)))))))
theorem laws_FnExactFacesTo.mono_l : ∀ k, (∀ y0 y1 y2 y3 y4 y5 y6 y7 y8, LeO (laws_FnExactFacesTo.j0 k y0 y1 y2 y3 y4 y5 y6 y7 y8) (laws_FnExactFacesTo.j0 (k + 1) y0 y1 y2 y3 y4 y5 y6 y7 y8))
  | 0 => fun _ _ _ _ _ _ _ _ _ r h => by simp [laws_FnExactFacesTo.j0] at h
  | k + 1 => by
    have ih0 := laws_FnExactFacesTo.mono_l k
    · intro y0 y1 y2 y3 y4 y5 y6 y7 y8
      unfold laws_FnExactFacesTo.j0
      repeat' first
      | (with_reducible exact ih0 _ _ _ _ _ _ _ _ _)
      | (with_reducible exact impl_FacesTo.mono _ _ _ _ _ _ _)
      | (with_reducible exact laws_eqBoard.mono _ _ _ _ _ _ _ _ _)
      | (with_reducible exact laws_toBoard.mono _ _ _ _ _)
      | (with_reducible exact spec_FacesTo.mono _ _ _ _ _ _ _)
      | (with_reducible exact LeO.refl _)
      | (with_reducible exact LeO.none _)
      | (with_reducible refine LeO.ite ?_ ?_)
      | (with_reducible refine LeO.bind ?_ (fun _ => ?_))
      | exact ih0 _ _ _ _ _ _ _ _ _
      | exact impl_FacesTo.mono _ _ _ _ _ _ _
      | exact laws_eqBoard.mono _ _ _ _ _ _ _ _ _
      | exact laws_toBoard.mono _ _ _ _ _
      | exact spec_FacesTo.mono _ _ _ _ _ _ _
      | exact LeO.none _
      | refine LeO.ite ?_ ?_
      | refine LeO.bind ?_ (fun _ => ?_)
theorem laws_FnExactFacesTo.mono : ∀ a0 a1 a2 a3 a4 a5 k, LeO (laws_FnExactFacesTo.f k a0 a1 a2 a3 a4 a5) (laws_FnExactFacesTo.f (k + 1) a0 a1 a2 a3 a4 a5) := by
  intro a0 a1 a2 a3 a4 a5 k
  have ih0 := laws_FnExactFacesTo.mono_l k
  unfold laws_FnExactFacesTo.f
  repeat' first
      | (with_reducible exact ih0 _ _ _ _ _ _ _ _ _)
      | (with_reducible exact impl_FacesTo.mono _ _ _ _ _ _ _)
      | (with_reducible exact laws_eqBoard.mono _ _ _ _ _ _ _ _ _)
      | (with_reducible exact laws_toBoard.mono _ _ _ _ _)
      | (with_reducible exact spec_FacesTo.mono _ _ _ _ _ _ _)
      | (with_reducible exact LeO.refl _)
      | (with_reducible exact LeO.none _)
      | (with_reducible refine LeO.ite ?_ ?_)
      | (with_reducible refine LeO.bind ?_ (fun _ => ?_))
      | exact ih0 _ _ _ _ _ _ _ _ _
      | exact impl_FacesTo.mono _ _ _ _ _ _ _
      | exact laws_eqBoard.mono _ _ _ _ _ _ _ _ _
      | exact laws_toBoard.mono _ _ _ _ _
      | exact spec_FacesTo.mono _ _ _ _ _ _ _
      | exact LeO.none _
      | refine LeO.ite ?_ ?_
      | refine LeO.bind ?_ (fun _ => ?_)
set_option maxHeartbeats 8000000 in
set_option maxRecDepth 100000 in
theorem laws_FnExactFacesTo.calls (k : Nat) (a0_0 : Int) (a0_1 : Int) (a0_2 : Int) (A0_3 : Option Addr) (c0_3 : Nat) (l0_3 : List (S82)) (a1 : Int) (a2 : Int) (r : Bool) (w : World) (hr0_3 : Kd.C k82 w A0_3 l0_3.length l0_3) (hc0_3 : l0_3.length ≤ c0_3) (h : laws_FnExactFacesTo.f k a0_0 a0_1 a0_2 l0_3 a1 a2 = some r) :
    Calls Try.prog 10 #[.agg #[.int .i64 a0_0, .int .i64 a0_1, .int .i64 a0_2, .slice A0_3 l0_3.length c0_3], .int .i64 a1, .int .i64 a2] w fun e w' => e = .returned (.bool r) ∧ Below w.heap.size w w' := by
  have hu24 := Try.underlying24
  have hu32 := Try.underlying32
  have HR0_3 := Aside0.mk hr0_3
  have HC0_3 := Aside0.mk hc0_3
  clear hr0_3 hc0_3
  have HB := Aside0.mk (Below.refl w.heap.size w)
  have H : ((laws_szBoard.f a0_0 a0_1 a0_2 l0_3 1048576).bind fun t20102 => (if t20102 < 0 then (some true) else ((laws_toBoard.f k a0_0 a0_1 a0_2 l0_3).bind fun bt20103 => ((spec_FacesTo.f k bt20103.1 bt20103.2.1 bt20103.2.2.1 bt20103.2.2.2 a1 a2).bind fun bt20109 => ((laws_toBoard.f k a0_0 a0_1 a0_2 l0_3).bind fun bt20111 => ((impl_FacesTo.f k bt20111.1 bt20111.2.1 bt20111.2.2.1 bt20111.2.2.2 a1 a2).bind fun bt20118 => (if bt20118.1 = bt20109.1 then (laws_FnExactFacesTo.j0 k (bt20118.2 != bt20109.2) a0_0 a0_1 a0_2 l0_3 bt20111.1 bt20111.2.1 bt20111.2.2.1 bt20111.2.2.2) else (laws_FnExactFacesTo.j0 k true a0_0 a0_1 a0_2 l0_3 bt20111.1 bt20111.2.1 bt20111.2.2.1 bt20111.2.2.2)))))))) = some r := h
  clear h
  replace H := Option.bind_eq_some_iff.mp H
  obtain ⟨t20102, A40, H⟩ := H
  replace H : (if t20102 < 0 then (some true) else ((laws_toBoard.f k a0_0 a0_1 a0_2 l0_3).bind fun bt20103 => ((spec_FacesTo.f k bt20103.1 bt20103.2.1 bt20103.2.2.1 bt20103.2.2.2 a1 a2).bind fun bt20109 => ((laws_toBoard.f k a0_0 a0_1 a0_2 l0_3).bind fun bt20111 => ((impl_FacesTo.f k bt20111.1 bt20111.2.1 bt20111.2.2.1 bt20111.2.2.2 a1 a2).bind fun bt20118 => (if bt20118.1 = bt20109.1 then (laws_FnExactFacesTo.j0 k (bt20118.2 != bt20109.2) a0_0 a0_1 a0_2 l0_3 bt20111.1 bt20111.2.1 bt20111.2.2.1 bt20111.2.2.2) else (laws_FnExactFacesTo.j0 k true a0_0 a0_1 a0_2 l0_3 bt20111.1 bt20111.2.1 bt20111.2.2.1 bt20111.2.2.2))))))) = some r := H
  have A4 := Aside0.mk A40
  clear A40
  by_cases c5 : t20102 < 0
  · rw [if_pos c5] at H
    have c5b0 : decide (t20102 < 0) = true := decide_eq_true c5
    clear c5
    obtain rfl := Option.some.inj H
    go_enter Try.func10, Try.ntmps10
    go_wp2_with (first | ((with_reducible refine gate_dst (N := 3) rfl ?_); refine box_event ?hg (N := 3) ?hd (cs := #[.int .i64 a0_0, .int .i64 a0_1, .int .i64 a0_2, .slice A0_3 l0_3.length c0_3]) (t := 24) ?hr ?_; (case hd => rfl); (case hg => rfl); (case hr => first | (go_simp; done) | (go_simp; rfl)); intro gb20101 hg w6 hbox hb; have n0_ := Aside0.mk (below_step (by repeat (first | (with_reducible first | exact HB.out | apply below_alloc | apply pw_below_drewN | apply below_drew1) | exact HB.out)) hb); have n1_ := Aside0.mk (hbox); have n2_ := Aside0.mk ((by rw [hg]; exact (below_size (by repeat (first | (with_reducible first | exact HB.out | apply below_alloc | apply pw_below_drewN | apply below_drew1) | exact HB.out))) : w.heap.size ≤ gb20101)); have n3_ := Aside0.mk ((by rw [hg]; exact (below_size (by repeat (first | (with_reducible first | exact HB.out | apply below_alloc | apply pw_below_drewN | apply below_drew1) | exact HB.out))) : w.heap.size ≤ gb20101)); clear HB; have HB := n0_; have BK20101 := n1_; have GW20101 := n2_; have GE20101 := n3_; clear n0_ n1_ n2_ n3_; clear hb hbox hg; have hcz7_0 : w6.cell? ⟨gb20101, 0, none⟩ = some (.int .i64 a0_0) := (blk_cell BK20101.out 0).trans rfl; have hcz7_1 : w6.cell? ⟨gb20101, 1, none⟩ = some (.int .i64 a0_1) := (blk_cell BK20101.out 1).trans rfl; have hcz7_2 : w6.cell? ⟨gb20101, 2, none⟩ = some (.int .i64 a0_2) := (blk_cell BK20101.out 2).trans rfl; have hcz7_3 : w6.cell? ⟨gb20101, 3, none⟩ = some (.slice A0_3 l0_3.length c0_3) := (blk_cell BK20101.out 3).trans rfl; have hfz7_0 := blk_frozen BK20101.out 0; have hfz7_1 := blk_frozen BK20101.out 1; have hfz7_2 := blk_frozen BK20101.out 2; have hfz7_3 := blk_frozen BK20101.out 3) | ((with_reducible refine gate_callee (f := 37) rfl ?_); refine goesL_ (some 15) rfl rfl Try.func37 (by kernel_rfl) rfl #[.agg #[.int .i64 a0_0, .int .i64 a0_1, .int .i64 a0_2, .slice A0_3 l0_3.length c0_3], .int .i64 1048576] rfl (by (try simp only [List.map_toArray, List.map_cons, List.map_nil]); first | done | rfl | (simp only [List.length_drop, List.length_take]; rfl)) ?_; (with_reducible refine (laws_szBoard.calls a0_0 a0_1 a0_2 _ _ l0_3 1048576 t20102 _ ?side1 ?side2 A4.out).mono ?_); (case side1 => repeat (first | exact (Kd.C_below HR0_3.out HB.out) | (with_reducible refine Kd.C_alloc ?_ _) | (with_reducible refine Kd.C_drewN ?_ _) | (with_reducible refine Kd.C_drew ?_))); (case side2 => exact HC0_3.out); rintro e w8 ⟨rfl, hb⟩; refine ⟨_, rfl, ?_⟩; have n0_ := Aside0.mk (blk_below (g := gb20101) (o := .cells #[.int .i64 a0_0, .int .i64 a0_1, .int .i64 a0_2, .slice A0_3 l0_3.length c0_3] 24 (0, 0)) (by (with_reducible repeat (first | refine blk_drewN ?_ _ | refine blk_drew ?_ | refine blk_alloc ?_ _)); exact BK20101.out) hb); have n1_ := Aside0.mk (below_step (by repeat (first | (with_reducible first | exact HB.out | apply below_alloc | apply pw_below_drewN | apply below_drew1 | refine below_set ?_ GE20101.out) | exact HB.out)) hb); clear BK20101; clear HB; have BK20101 := n0_; have HB := n1_; clear n0_ n1_; (try clear hb); (try clear hb2); (try clear hk); (try clear hi)))
    go_ret
    exact ⟨by first | rfl | (simp [errW_none, errW_some] <;> rfl) | (simp [*, errW_none, errW_some] <;> rfl), by repeat (first | (with_reducible first | exact HB.out | apply below_alloc | apply pw_below_drewN | apply below_drew1 | refine below_set ?_ GE20101.out) | exact HB.out)⟩
  · rw [if_neg c5] at H
    have c5b0 : decide (t20102 < 0) = false := decide_eq_false c5
    clear c5
    replace H := Option.bind_eq_some_iff.mp H
    obtain ⟨⟨t20103, t20104, t20105, t20106⟩, A90, H⟩ := H
    replace H : ((spec_FacesTo.f k t20103 t20104 t20105 t20106 a1 a2).bind fun bt20109 => ((laws_toBoard.f k a0_0 a0_1 a0_2 l0_3).bind fun bt20111 => ((impl_FacesTo.f k bt20111.1 bt20111.2.1 bt20111.2.2.1 bt20111.2.2.2 a1 a2).bind fun bt20118 => (if bt20118.1 = bt20109.1 then (laws_FnExactFacesTo.j0 k (bt20118.2 != bt20109.2) a0_0 a0_1 a0_2 l0_3 bt20111.1 bt20111.2.1 bt20111.2.2.1 bt20111.2.2.2) else (laws_FnExactFacesTo.j0 k true a0_0 a0_1 a0_2 l0_3 bt20111.1 bt20111.2.1 bt20111.2.2.1 bt20111.2.2.2))))) = some r := H
    have A9 := Aside0.mk A90
    clear A90
    replace H := Option.bind_eq_some_iff.mp H
    obtain ⟨⟨t20109, t20110⟩, A100, H⟩ := H
    replace H : ((laws_toBoard.f k a0_0 a0_1 a0_2 l0_3).bind fun bt20111 => ((impl_FacesTo.f k bt20111.1 bt20111.2.1 bt20111.2.2.1 bt20111.2.2.2 a1 a2).bind fun bt20118 => (if bt20118.1 = t20109 then (laws_FnExactFacesTo.j0 k (bt20118.2 != t20110) a0_0 a0_1 a0_2 l0_3 bt20111.1 bt20111.2.1 bt20111.2.2.1 bt20111.2.2.2) else (laws_FnExactFacesTo.j0 k true a0_0 a0_1 a0_2 l0_3 bt20111.1 bt20111.2.1 bt20111.2.2.1 bt20111.2.2.2)))) = some r := H
    have A10 := Aside0.mk A100
    clear A100
    replace H := Option.bind_eq_some_iff.mp H
    obtain ⟨⟨t20111, t20112, t20113, t20114⟩, A110, H⟩ := H
    replace H : ((impl_FacesTo.f k t20111 t20112 t20113 t20114 a1 a2).bind fun bt20118 => (if bt20118.1 = t20109 then (laws_FnExactFacesTo.j0 k (bt20118.2 != t20110) a0_0 a0_1 a0_2 l0_3 t20111 t20112 t20113 t20114) else (laws_FnExactFacesTo.j0 k true a0_0 a0_1 a0_2 l0_3 t20111 t20112 t20113 t20114))) = some r := H
    have A11 := Aside0.mk A110
    clear A110
    replace H := Option.bind_eq_some_iff.mp H
    obtain ⟨⟨t20118, t20119⟩, A120, H⟩ := H
    replace H : (if t20118 = t20109 then (laws_FnExactFacesTo.j0 k (t20119 != t20110) a0_0 a0_1 a0_2 l0_3 t20111 t20112 t20113 t20114) else (laws_FnExactFacesTo.j0 k true a0_0 a0_1 a0_2 l0_3 t20111 t20112 t20113 t20114)) = some r := H
    have A12 := Aside0.mk A120
    clear A120
    have HC13 := Aside0.mk H
    clear H
    go_enter Try.func10, Try.ntmps10
    go_upto_region 8 with (first | ((with_reducible refine gate_dst (N := 3) rfl ?_); refine box_event ?hg (N := 3) ?hd (cs := #[.int .i64 a0_0, .int .i64 a0_1, .int .i64 a0_2, .slice A0_3 l0_3.length c0_3]) (t := 24) ?hr ?_; (case hd => rfl); (case hg => rfl); (case hr => first | (go_simp; done) | (go_simp; rfl)); intro gb20101 hg w14 hbox hb; have n0_ := Aside0.mk (below_step (by repeat (first | (with_reducible first | exact HB.out | apply below_alloc | apply pw_below_drewN | apply below_drew1) | exact HB.out)) hb); have n1_ := Aside0.mk (hbox); have n2_ := Aside0.mk ((by rw [hg]; exact (below_size (by repeat (first | (with_reducible first | exact HB.out | apply below_alloc | apply pw_below_drewN | apply below_drew1) | exact HB.out))) : w.heap.size ≤ gb20101)); have n3_ := Aside0.mk ((by rw [hg]; exact (below_size (by repeat (first | (with_reducible first | exact HB.out | apply below_alloc | apply pw_below_drewN | apply below_drew1) | exact HB.out))) : w.heap.size ≤ gb20101)); clear HB; have HB := n0_; have BK20101 := n1_; have GW20101 := n2_; have GE20101 := n3_; clear n0_ n1_ n2_ n3_; clear hb hbox hg; have hcz15_0 : w14.cell? ⟨gb20101, 0, none⟩ = some (.int .i64 a0_0) := (blk_cell BK20101.out 0).trans rfl; have hcz15_1 : w14.cell? ⟨gb20101, 1, none⟩ = some (.int .i64 a0_1) := (blk_cell BK20101.out 1).trans rfl; have hcz15_2 : w14.cell? ⟨gb20101, 2, none⟩ = some (.int .i64 a0_2) := (blk_cell BK20101.out 2).trans rfl; have hcz15_3 : w14.cell? ⟨gb20101, 3, none⟩ = some (.slice A0_3 l0_3.length c0_3) := (blk_cell BK20101.out 3).trans rfl; have hfz15_0 := blk_frozen BK20101.out 0; have hfz15_1 := blk_frozen BK20101.out 1; have hfz15_2 := blk_frozen BK20101.out 2; have hfz15_3 := blk_frozen BK20101.out 3) | ((with_reducible refine gate_callee (f := 37) rfl ?_); refine goesL_ (some 15) rfl rfl Try.func37 (by kernel_rfl) rfl #[.agg #[.int .i64 a0_0, .int .i64 a0_1, .int .i64 a0_2, .slice A0_3 l0_3.length c0_3], .int .i64 1048576] rfl (by (try simp only [List.map_toArray, List.map_cons, List.map_nil]); first | done | rfl | (simp only [List.length_drop, List.length_take]; rfl)) ?_; (with_reducible refine (laws_szBoard.calls a0_0 a0_1 a0_2 _ _ l0_3 1048576 t20102 _ ?side1 ?side2 A4.out).mono ?_); (case side1 => repeat (first | exact (Kd.C_below HR0_3.out HB.out) | (with_reducible refine Kd.C_alloc ?_ _) | (with_reducible refine Kd.C_drewN ?_ _) | (with_reducible refine Kd.C_drew ?_))); (case side2 => exact HC0_3.out); rintro e w16 ⟨rfl, hb⟩; refine ⟨_, rfl, ?_⟩; have n0_ := Aside0.mk (blk_below (g := gb20101) (o := .cells #[.int .i64 a0_0, .int .i64 a0_1, .int .i64 a0_2, .slice A0_3 l0_3.length c0_3] 24 (0, 0)) (by (with_reducible repeat (first | refine blk_drewN ?_ _ | refine blk_drew ?_ | refine blk_alloc ?_ _)); exact BK20101.out) hb); have n1_ := Aside0.mk (below_step (by repeat (first | (with_reducible first | exact HB.out | apply below_alloc | apply pw_below_drewN | apply below_drew1 | refine below_set ?_ GE20101.out) | exact HB.out)) hb); clear BK20101; clear HB; have BK20101 := n0_; have HB := n1_; clear n0_ n1_; (try clear hb); (try clear hb2); (try clear hk); (try clear hi); have hcz17_0 : w16.cell? ⟨gb20101, 0, none⟩ = some (.int .i64 a0_0) := (blk_cell BK20101.out 0).trans rfl; have hcz17_1 : w16.cell? ⟨gb20101, 1, none⟩ = some (.int .i64 a0_1) := (blk_cell BK20101.out 1).trans rfl; have hcz17_2 : w16.cell? ⟨gb20101, 2, none⟩ = some (.int .i64 a0_2) := (blk_cell BK20101.out 2).trans rfl; have hcz17_3 : w16.cell? ⟨gb20101, 3, none⟩ = some (.slice A0_3 l0_3.length c0_3) := (blk_cell BK20101.out 3).trans rfl; have hfz17_0 := blk_frozen BK20101.out 0; have hfz17_1 := blk_frozen BK20101.out 1; have hfz17_2 := blk_frozen BK20101.out 2; have hfz17_3 := blk_frozen BK20101.out 3) | ((with_reducible refine gate_callee (f := 39) rfl ?_); refine goesL_ (some 20) rfl rfl Try.func39 (by kernel_rfl) rfl #[.agg #[.int .i64 a0_0, .int .i64 a0_1, .int .i64 a0_2, .slice A0_3 l0_3.length c0_3]] rfl (by (try simp only [List.map_toArray, List.map_cons, List.map_nil]); first | done | rfl | (simp only [List.length_drop, List.length_take]; rfl)) ?_; (with_reducible refine (laws_toBoard.calls k a0_0 a0_1 a0_2 _ _ l0_3 t20103 t20104 t20105 t20106 _ ?side1 ?side2 A9.out).mono ?_); (case side1 => repeat (first | exact (Kd.C_below HR0_3.out HB.out) | (with_reducible refine Kd.C_alloc ?_ _) | (with_reducible refine Kd.C_drewN ?_ _) | (with_reducible refine Kd.C_drew ?_))); (case side2 => exact HC0_3.out); rintro e w18 ⟨v20107, rfl, ho0, hb⟩; refine ⟨_, rfl, ?_⟩; have n0_ := Aside0.mk (Kd.R_lower ho0 (below_size (by repeat (first | (with_reducible first | exact HB.out | apply below_alloc | apply pw_below_drewN | apply below_drew1 | refine below_set ?_ GE20101.out) | exact HB.out)))); have n1_ := Aside0.mk (blk_below (g := gb20101) (o := .cells #[.int .i64 a0_0, .int .i64 a0_1, .int .i64 a0_2, .slice A0_3 l0_3.length c0_3] 24 (0, 0)) (by (with_reducible repeat (first | refine blk_drewN ?_ _ | refine blk_drew ?_ | refine blk_alloc ?_ _)); exact BK20101.out) hb); have n2_ := Aside0.mk (below_step (by repeat (first | (with_reducible first | exact HB.out | apply below_alloc | apply pw_below_drewN | apply below_drew1 | refine below_set ?_ GE20101.out) | exact HB.out)) hb); clear BK20101; clear HB; have HO20108 := n0_; have BK20101 := n1_; have HB := n2_; clear n0_ n1_ n2_; (try clear hb); (try clear hb2); (try clear hk); (try clear hi); (try clear ho0); obtain ⟨Ao19, co19, eo19⟩ := Kd.R_slice HO20108.out; subst eo19) | ((with_reducible refine gate_callee (f := 63) rfl ?_); refine goesL_ (some 23) rfl rfl Try.func63 (by kernel_rfl) rfl #[.agg #[.int .i64 t20103, .int .i64 t20104, .int .i64 t20105, .slice Ao19 t20106.length co19], .int .i64 a1, .int .i64 a2] rfl (by (try simp only [List.map_toArray, List.map_cons, List.map_nil]); first | done | rfl | (simp only [List.length_drop, List.length_take]; rfl)) ?_; (with_reducible refine (spec_FacesTo.calls k t20103 t20104 t20105 _ _ t20106 a1 a2 t20109 t20110 _ ?side1 ?side2 A10.out).mono ?_); (case side1 => repeat (first | exact (Kd.R_reads' HO20108.out).2.2 | (with_reducible refine Kd.C_alloc ?_ _) | (with_reducible refine Kd.C_drewN ?_ _) | (with_reducible refine Kd.C_drew ?_))); (case side2 => exact (Kd.R_reads' HO20108.out).2.1); rintro e w20 ⟨rfl, hb⟩; refine ⟨_, rfl, ?_⟩; have n0_ := Aside0.mk (Kd.R_below (by (with_reducible repeat (first | apply Kd.R_alloc | apply Kd.R_drewN | apply Kd.R_drew)); exact HO20108.out) hb); have n1_ := Aside0.mk (blk_below (g := gb20101) (o := .cells #[.int .i64 a0_0, .int .i64 a0_1, .int .i64 a0_2, .slice A0_3 l0_3.length c0_3] 24 (0, 0)) (by (with_reducible repeat (first | refine blk_drewN ?_ _ | refine blk_drew ?_ | refine blk_alloc ?_ _)); exact BK20101.out) hb); have n2_ := Aside0.mk (below_step (by repeat (first | (with_reducible first | exact HB.out | apply below_alloc | apply pw_below_drewN | apply below_drew1 | refine below_set ?_ GE20101.out) | exact HB.out)) hb); clear HO20108; clear BK20101; clear HB; have HO20108 := n0_; have BK20101 := n1_; have HB := n2_; clear n0_ n1_ n2_; (try clear hb); (try clear hb2); (try clear hk); (try clear hi); have hcz21_0 : w20.cell? ⟨gb20101, 0, none⟩ = some (.int .i64 a0_0) := (blk_cell BK20101.out 0).trans rfl; have hcz21_1 : w20.cell? ⟨gb20101, 1, none⟩ = some (.int .i64 a0_1) := (blk_cell BK20101.out 1).trans rfl; have hcz21_2 : w20.cell? ⟨gb20101, 2, none⟩ = some (.int .i64 a0_2) := (blk_cell BK20101.out 2).trans rfl; have hcz21_3 : w20.cell? ⟨gb20101, 3, none⟩ = some (.slice A0_3 l0_3.length c0_3) := (blk_cell BK20101.out 3).trans rfl; have hfz21_0 := blk_frozen BK20101.out 0; have hfz21_1 := blk_frozen BK20101.out 1; have hfz21_2 := blk_frozen BK20101.out 2; have hfz21_3 := blk_frozen BK20101.out 3) | ((with_reducible refine gate_callee (f := 39) rfl ?_); refine goesL_ (some 27) rfl rfl Try.func39 (by kernel_rfl) rfl #[.agg #[.int .i64 a0_0, .int .i64 a0_1, .int .i64 a0_2, .slice A0_3 l0_3.length c0_3]] rfl (by (try simp only [List.map_toArray, List.map_cons, List.map_nil]); first | done | rfl | (simp only [List.length_drop, List.length_take]; rfl)) ?_; (with_reducible refine (laws_toBoard.calls k a0_0 a0_1 a0_2 _ _ l0_3 t20111 t20112 t20113 t20114 _ ?side1 ?side2 A11.out).mono ?_); (case side1 => repeat (first | exact (Kd.C_below HR0_3.out HB.out) | (with_reducible refine Kd.C_alloc ?_ _) | (with_reducible refine Kd.C_drewN ?_ _) | (with_reducible refine Kd.C_drew ?_))); (case side2 => exact HC0_3.out); rintro e w22 ⟨v20115, rfl, ho0, hb⟩; refine ⟨_, rfl, ?_⟩; have n0_ := Aside0.mk (Kd.R_elder' (by (with_reducible repeat (first | apply Kd.R_alloc | apply Kd.R_drewN | apply Kd.R_drew)); exact HO20108.out) (Kd.R_base ho0) hb); have n1_ := Aside0.mk (Kd.R_lower (Kd.R_new' ho0 (Kd.R_lt (by (with_reducible repeat (first | apply Kd.R_alloc | apply Kd.R_drewN | apply Kd.R_drew)); exact HO20108.out))) (below_size (by repeat (first | (with_reducible first | exact HB.out | apply below_alloc | apply pw_below_drewN | apply below_drew1 | refine below_set ?_ GE20101.out) | exact HB.out)))); have n2_ := Aside0.mk (blk_below (g := gb20101) (o := .cells #[.int .i64 a0_0, .int .i64 a0_1, .int .i64 a0_2, .slice A0_3 l0_3.length c0_3] 24 (0, 0)) (by (with_reducible repeat (first | refine blk_drewN ?_ _ | refine blk_drew ?_ | refine blk_alloc ?_ _)); exact BK20101.out) hb); have n3_ := Aside0.mk (below_step (by repeat (first | (with_reducible first | exact HB.out | apply below_alloc | apply pw_below_drewN | apply below_drew1 | refine below_set ?_ GE20101.out) | exact HB.out)) hb); clear HO20108; clear BK20101; clear HB; have HO20108 := n0_; have HO20116 := n1_; have BK20101 := n2_; have HB := n3_; clear n0_ n1_ n2_ n3_; (try clear hb); (try clear hb2); (try clear hk); (try clear hi); (try clear ho0)) | ((with_reducible refine gate_dst (N := 10) rfl ?_); refine box_event ?hg (N := 10) ?hd (cs := #[.int .i64 0, .int .i64 0, .int .i64 0, .slice none 0 0]) (t := 32) ?hr ?_; (case hd => rfl); (case hg => rfl); (case hr => first | (go_simp; done) | (go_simp; rfl)); intro gb20117 hg w23 hbox hb; have n0_ := Aside0.mk (Kd.R_below (by (with_reducible repeat (first | apply Kd.R_alloc | apply Kd.R_drewN | apply Kd.R_drew)); exact HO20108.out) hb); have n1_ := Aside0.mk (Kd.R_below (by (with_reducible repeat (first | apply Kd.R_alloc | apply Kd.R_drewN | apply Kd.R_drew)); exact HO20116.out) hb); have n2_ := Aside0.mk (blk_below (g := gb20101) (o := .cells #[.int .i64 a0_0, .int .i64 a0_1, .int .i64 a0_2, .slice A0_3 l0_3.length c0_3] 24 (0, 0)) (by (with_reducible repeat (first | refine blk_drewN ?_ _ | refine blk_drew ?_ | refine blk_alloc ?_ _)); exact BK20101.out) hb); have n3_ := Aside0.mk (below_step (by repeat (first | (with_reducible first | exact HB.out | apply below_alloc | apply pw_below_drewN | apply below_drew1 | refine below_set ?_ GE20101.out) | exact HB.out)) hb); have n4_ := Aside0.mk (hbox); have n5_ := Aside0.mk ((by rw [hg]; exact (below_size (by repeat (first | (with_reducible first | exact HB.out | apply below_alloc | apply pw_below_drewN | apply below_drew1 | refine below_set ?_ GE20101.out) | exact HB.out))) : w.heap.size ≤ gb20117)); have n6_ := Aside0.mk ((by rw [hg]; exact (below_size (by repeat (first | (with_reducible first | exact HB.out | apply below_alloc | apply pw_below_drewN | apply below_drew1 | refine below_set ?_ GE20101.out) | exact HB.out))) : w.heap.size ≤ gb20117)); have n7_ := Aside0.mk ((by rw [hg]; exact Nat.ne_of_lt (blk_lt (g := gb20101) (o := .cells #[.int .i64 a0_0, .int .i64 a0_1, .int .i64 a0_2, .slice A0_3 l0_3.length c0_3] 24 (0, 0)) (by (with_reducible repeat (first | refine blk_drewN ?_ _ | refine blk_drew ?_ | refine blk_alloc ?_ _)); exact BK20101.out)) : gb20101 ≠ gb20117)); have n8_ := Aside0.mk ((by rw [hg]; exact Nat.ne_of_gt (blk_lt (g := gb20101) (o := .cells #[.int .i64 a0_0, .int .i64 a0_1, .int .i64 a0_2, .slice A0_3 l0_3.length c0_3] 24 (0, 0)) (by (with_reducible repeat (first | refine blk_drewN ?_ _ | refine blk_drew ?_ | refine blk_alloc ?_ _)); exact BK20101.out)) : gb20117 ≠ gb20101)); clear HO20108; clear HO20116; clear BK20101; clear HB; have HO20108 := n0_; have HO20116 := n1_; have BK20101 := n2_; have HB := n3_; have BK20117 := n4_; have GW20117 := n5_; have GE20117 := n6_; have NB20101_20117 := n7_; have NB20117_20101 := n8_; clear n0_ n1_ n2_ n3_ n4_ n5_ n6_ n7_ n8_; clear hb hbox hg; have hnb24 := NB20117_20101.out; have hnc24 := NB20101_20117.out; have hcz25_0 : w23.cell? ⟨gb20117, 0, none⟩ = some (.int .i64 0) := (blk_cell BK20117.out 0).trans rfl; have hcz25_1 : w23.cell? ⟨gb20117, 1, none⟩ = some (.int .i64 0) := (blk_cell BK20117.out 1).trans rfl; have hcz25_2 : w23.cell? ⟨gb20117, 2, none⟩ = some (.int .i64 0) := (blk_cell BK20117.out 2).trans rfl; have hcz25_3 : w23.cell? ⟨gb20117, 3, none⟩ = some (.slice none 0 0) := (blk_cell BK20117.out 3).trans rfl; have hfz25_0 := blk_frozen BK20117.out 0; have hfz25_1 := blk_frozen BK20117.out 1; have hfz25_2 := blk_frozen BK20117.out 2; have hfz25_3 := blk_frozen BK20117.out 3; obtain ⟨Ao26, co26, eo26⟩ := Kd.R_slice HO20116.out; subst eo26) | ((with_reducible refine gate_callee (f := 64) rfl ?_); refine goesL_ (some 32) rfl rfl Try.func64 (by kernel_rfl) rfl #[.agg #[.int .i64 t20111, .int .i64 t20112, .int .i64 t20113, .slice Ao26 t20114.length co26], .int .i64 a1, .int .i64 a2] rfl (by (try simp only [List.map_toArray, List.map_cons, List.map_nil]); first | done | rfl | (simp only [List.length_drop, List.length_take]; rfl)) ?_; (with_reducible refine (impl_FacesTo.calls k t20111 t20112 t20113 _ _ t20114 a1 a2 t20118 t20119 _ ?side1 ?side2 A12.out).mono ?_); (case side1 => refine (Kd.R_reads' (e := 27) (base := w.heap.size) (ok := fun k_ => (True ∧ some k_ ≠ (.slice Ao19 t20106.length co19 : Value).ownBlock)) (n := t20114.length) (c := co26) ?_).2.2; exact (by (with_reducible repeat (first | apply Kd.R_alloc | apply Kd.R_drewN | apply Kd.R_drew)); exact (Kd.R_mono (Kd.R_far (p := ⟨gb20117, 3, none⟩) (Kd.R_far (p := ⟨gb20117, 2, none⟩) (Kd.R_far (p := ⟨gb20117, 1, none⟩) (Kd.R_far (p := ⟨gb20117, 0, none⟩) (Kd.R_types HO20116.out BK20117.out (by decide)) (fun _ hk => hk.2) (.int .i64 t20111)) (fun _ hk => hk.2) (.int .i64 t20112)) (fun _ hk => hk.2) (.int .i64 t20113)) (fun _ hk => hk.2) (.slice Ao26 t20114.length co26)) (fun _ h_ => h_.1)))); (case side2 => exact (Kd.R_reads' HO20116.out).2.1); rintro e w27 ⟨rfl, hb⟩; refine ⟨_, rfl, ?_⟩; have n0_ := Aside0.mk (Kd.R_below (by (with_reducible repeat (first | apply Kd.R_alloc | apply Kd.R_drewN | apply Kd.R_drew)); exact (Kd.R_mono (Kd.R_far (p := ⟨gb20117, 3, none⟩) (Kd.R_far (p := ⟨gb20117, 2, none⟩) (Kd.R_far (p := ⟨gb20117, 1, none⟩) (Kd.R_far (p := ⟨gb20117, 0, none⟩) (Kd.R_types HO20108.out BK20117.out (by decide)) (fun _ hk => hk.2) (.int .i64 t20111)) (fun _ hk => hk.2) (.int .i64 t20112)) (fun _ hk => hk.2) (.int .i64 t20113)) (fun _ hk => hk.2) (.slice Ao26 t20114.length co26)) (fun _ h_ => h_.1))) hb); have n1_ := Aside0.mk (Kd.R_below (by (with_reducible repeat (first | apply Kd.R_alloc | apply Kd.R_drewN | apply Kd.R_drew)); exact (Kd.R_mono (Kd.R_far (p := ⟨gb20117, 3, none⟩) (Kd.R_far (p := ⟨gb20117, 2, none⟩) (Kd.R_far (p := ⟨gb20117, 1, none⟩) (Kd.R_far (p := ⟨gb20117, 0, none⟩) (Kd.R_types HO20116.out BK20117.out (by decide)) (fun _ hk => hk.2) (.int .i64 t20111)) (fun _ hk => hk.2) (.int .i64 t20112)) (fun _ hk => hk.2) (.int .i64 t20113)) (fun _ hk => hk.2) (.slice Ao26 t20114.length co26)) (fun _ h_ => h_.1))) hb); have n2_ := Aside0.mk (blk_below (g := gb20101) (o := .cells #[.int .i64 a0_0, .int .i64 a0_1, .int .i64 a0_2, .slice A0_3 l0_3.length c0_3] 24 (0, 0)) (by (with_reducible repeat (first | refine blk_drewN ?_ _ | refine blk_drew ?_ | refine blk_alloc ?_ _)); refine blk_far ?_ NB20101_20117.out _; (with_reducible repeat (first | refine blk_drewN ?_ _ | refine blk_drew ?_ | refine blk_alloc ?_ _)); refine blk_far ?_ NB20101_20117.out _; (with_reducible repeat (first | refine blk_drewN ?_ _ | refine blk_drew ?_ | refine blk_alloc ?_ _)); refine blk_far ?_ NB20101_20117.out _; (with_reducible repeat (first | refine blk_drewN ?_ _ | refine blk_drew ?_ | refine blk_alloc ?_ _)); refine blk_far ?_ NB20101_20117.out _; (with_reducible repeat (first | refine blk_drewN ?_ _ | refine blk_drew ?_ | refine blk_alloc ?_ _)); exact BK20101.out) hb); have n3_ := Aside0.mk (blk_below (g := gb20117) (o := .cells #[.int .i64 t20111, .int .i64 t20112, .int .i64 t20113, .slice Ao26 t20114.length co26] 32 (0, 0)) (by (with_reducible repeat (first | refine blk_drewN ?_ _ | refine blk_drew ?_ | refine blk_alloc ?_ _)); refine blk_put (cs := #[.int .i64 t20111, .int .i64 t20112, .int .i64 t20113, .slice none 0 0]) ?_ 3 _ rfl; (with_reducible repeat (first | refine blk_drewN ?_ _ | refine blk_drew ?_ | refine blk_alloc ?_ _)); refine blk_put (cs := #[.int .i64 t20111, .int .i64 t20112, .int .i64 0, .slice none 0 0]) ?_ 2 _ rfl; (with_reducible repeat (first | refine blk_drewN ?_ _ | refine blk_drew ?_ | refine blk_alloc ?_ _)); refine blk_put (cs := #[.int .i64 t20111, .int .i64 0, .int .i64 0, .slice none 0 0]) ?_ 1 _ rfl; (with_reducible repeat (first | refine blk_drewN ?_ _ | refine blk_drew ?_ | refine blk_alloc ?_ _)); refine blk_put (cs := #[.int .i64 0, .int .i64 0, .int .i64 0, .slice none 0 0]) ?_ 0 _ rfl; (with_reducible repeat (first | refine blk_drewN ?_ _ | refine blk_drew ?_ | refine blk_alloc ?_ _)); exact BK20117.out) hb); have n4_ := Aside0.mk (below_step (by repeat (first | (with_reducible first | exact HB.out | apply below_alloc | apply pw_below_drewN | apply below_drew1 | refine below_set ?_ GE20101.out | refine below_set ?_ GE20117.out) | exact HB.out)) hb); clear HO20108; clear HO20116; clear BK20101; clear BK20117; clear HB; have HO20108 := n0_; have HO20116 := n1_; have BK20101 := n2_; have BK20117 := n3_; have HB := n4_; clear n0_ n1_ n2_ n3_ n4_; (try clear hb); (try clear hb2); (try clear hk); (try clear hi)))
    (try simp only [Act.put, List.setIfInBounds_toArray, List.set_cons_zero, List.set_cons_succ])
    go_cut [42] (fun v42 wc => ∃ (kq : Nat) (x42_12 : Bool), v42 = .bool x42_12 ∧ Aside0 (laws_FnExactFacesTo.j0 kq x42_12 a0_0 a0_1 a0_2 l0_3 t20111 t20112 t20113 t20114 = some r) ∧ Aside0 (kq ≤ k) ∧ Aside0 (Kd.R k27 27 wc w.heap.size (fun _ => True) (.slice Ao26 t20114.length co26) t20114) ∧ Aside0 (wc.heap[gb20101]? = some (.cells #[.int .i64 a0_0, .int .i64 a0_1, .int .i64 a0_2, (.slice A0_3 l0_3.length c0_3)] 24 (0, 0))) ∧ Aside0 (wc.heap[gb20117]? = some (.cells #[.int .i64 t20111, .int .i64 t20112, .int .i64 t20113, (.slice Ao26 t20114.length co26)] 32 (0, 0))) ∧ Aside0 (Below w.heap.size w wc))
    case first =>
      have H := HC13.out
      clear HC13
      by_cases c28 : t20118 = t20109
      · rw [if_pos c28] at H
        have c28b0 : (t20118 == t20109) = true := beq_iff_eq.mpr c28
        have c28b1 : (t20118 != t20109) = false := bne_eq_false_iff_eq.mpr c28
        clear c28
        (first | rw [c28b0] | (simp only [i64_w, i32_w]; rw [c28b0]) | skip)
        have H' := Aside0.mk H
        clear H
        go_wp2
        go_meet
        case rel => exact ⟨_, ((t20119 != t20110)), (by first | rfl | (simp; done) | (simp [*]; done)), H', ⟨by first | omega | exact Nat.le_refl _⟩, ⟨by (with_reducible repeat (first | apply Kd.R_alloc | apply Kd.R_drewN | apply Kd.R_drew)); exact Kd.R_mono HO20116.out (fun _ hk => trivial)⟩, ⟨by (with_reducible repeat (first | refine blk_drewN ?_ _ | refine blk_drew ?_ | refine blk_alloc ?_ _)); exact BK20101.out⟩, ⟨by (with_reducible repeat (first | refine blk_drewN ?_ _ | refine blk_drew ?_ | refine blk_alloc ?_ _)); exact BK20117.out⟩, ⟨by repeat (first | (with_reducible first | exact HB.out | apply below_alloc | apply pw_below_drewN | apply below_drew1 | refine below_set ?_ GE20101.out | refine below_set ?_ GE20117.out) | exact HB.out)⟩⟩
      · rw [if_neg c28] at H
        have c28b0 : (t20118 == t20109) = false := beq_eq_false_iff_ne.mpr c28
        have c28b1 : (t20118 != t20109) = true := bne_iff_ne.mpr c28
        (first | rw [c28b0] | (simp only [i64_w, i32_w]; rw [c28b0]) | skip)
        have H' := Aside0.mk H
        clear H
        go_wp2
        go_meet
        case rel => exact ⟨_, (true), (by first | rfl | (simp; done) | (simp [*]; done)), H', ⟨by first | omega | exact Nat.le_refl _⟩, ⟨by (with_reducible repeat (first | apply Kd.R_alloc | apply Kd.R_drewN | apply Kd.R_drew)); exact Kd.R_mono HO20116.out (fun _ hk => trivial)⟩, ⟨by (with_reducible repeat (first | refine blk_drewN ?_ _ | refine blk_drew ?_ | refine blk_alloc ?_ _)); exact BK20101.out⟩, ⟨by (with_reducible repeat (first | refine blk_drewN ?_ _ | refine blk_drew ?_ | refine blk_alloc ?_ _)); exact BK20117.out⟩, ⟨by repeat (first | (with_reducible first | exact HB.out | apply below_alloc | apply pw_below_drewN | apply below_drew1 | refine below_set ?_ GE20101.out | refine below_set ?_ GE20117.out) | exact HB.out)⟩⟩
    case rest =>
      clear HC13
      try clear c1
      try clear c2
      try clear p2
      try clear c3
      try clear c5
      try clear c5b0
      try clear c6
      try clear c10
      try clear c24
      try clear c28
      try clear c28b0
      try clear c28b1
      try clear hcz15_0
      try clear hcz15_1
      try clear hcz15_2
      try clear hcz15_3
      try clear hcz17_0
      try clear hcz17_1
      try clear hcz17_2
      try clear hcz17_3
      try clear hcz21_0
      try clear hcz21_1
      try clear hcz21_2
      try clear hcz21_3
      try clear hcz25_0
      try clear hcz25_1
      try clear hcz25_2
      try clear hcz25_3
      try clear hcz7_0
      try clear hcz7_1
      try clear hcz7_2
      try clear hcz7_3
      try clear hfz15_0
      try clear hfz15_1
      try clear hfz15_2
      try clear hfz15_3
      try clear hfz17_0
      try clear hfz17_1
      try clear hfz17_2
      try clear hfz17_3
      try clear hfz21_0
      try clear hfz21_1
      try clear hfz21_2
      try clear hfz21_3
      try clear hfz25_0
      try clear hfz25_1
      try clear hfz25_2
      try clear hfz25_3
      try clear hfz7_0
      try clear hfz7_1
      try clear hfz7_2
      try clear hfz7_3
      obtain ⟨kq, x42_12, rfl, HA, HJ12, HO_20118003, BK20101, BK20117, HB⟩ := hcut
      cases kq with
      | zero => exact absurd HA.out (by simp [laws_FnExactFacesTo.j0])
      | succ kj12 =>
        have H := HA.out
        clear HA
        simp only [laws_FnExactFacesTo.j0] at H
        by_cases c29 : x42_12 = true
        · subst c29
          have H1 : (some false) = some r := by rw [if_pos rfl] at H; exact H
          clear H
          have H := H1
          clear H1
          obtain rfl := Option.some.inj H
          go_wp2
          go_ret
          exact ⟨by first | rfl | (simp [errW_none, errW_some] <;> rfl) | (simp [*, errW_none, errW_some] <;> rfl), by repeat (first | (with_reducible first | exact HB.out | apply below_alloc | apply pw_below_drewN | apply below_drew1 | refine below_set ?_ GE20101.out | refine below_set ?_ GE20117.out) | exact HB.out)⟩
        · replace c29 := Bool.eq_false_iff.mpr c29
          subst c29
          have H1 : ((laws_toBoard.f kj12 a0_0 a0_1 a0_2 l0_3).bind fun bt20120 => ((laws_eqBoard.f kj12 t20111 t20112 t20113 t20114 bt20120.1 bt20120.2.1 bt20120.2.2.1 bt20120.2.2.2).bind fun t20126 => (if t20126 = true then (some true) else (some false)))) = some r := by rw [if_neg (show ¬ (false = true) by decide)] at H; exact H
          clear H
          have H := H1
          clear H1
          replace H := Option.bind_eq_some_iff.mp H
          obtain ⟨⟨t20120, t20121, t20122, t20123⟩, A300, H⟩ := H
          replace H : ((laws_eqBoard.f kj12 t20111 t20112 t20113 t20114 t20120 t20121 t20122 t20123).bind fun t20126 => (if t20126 = true then (some true) else (some false))) = some r := H
          have A30 := Aside0.mk A300
          clear A300
          replace H := Option.bind_eq_some_iff.mp H
          obtain ⟨t20126, A310, H⟩ := H
          replace H : (if t20126 = true then (some true) else (some false)) = some r := H
          have A31 := Aside0.mk A310
          clear A310
          by_cases c32 : t20126 = true
          · subst c32
            have H1 : (some true) = some r := by rw [if_pos rfl] at H; exact H
            clear H
            have H := H1
            clear H1
            obtain rfl := Option.some.inj H
            try go_wp2
            have n0_ := Aside0.mk (Kd.R_drew HO_20118003.out)
            have n1_ := Aside0.mk (blk_drew BK20101.out)
            have n2_ := Aside0.mk (blk_drew BK20117.out)
            have n3_ := Aside0.mk (below_drew1 HB.out)
            clear HO_20118003
            clear BK20101
            clear BK20117
            clear HB
            have HO_20118003 := n0_
            have BK20101 := n1_
            have BK20117 := n2_
            have HB := n3_
            clear n0_ n1_ n2_ n3_
            refine start_ (n := 5) (S := fun w' => w'.cell? ⟨gb20117, 0, none⟩ = some (.int .i64 t20111) ∧ w'.cell? ⟨gb20117, 1, none⟩ = some (.int .i64 t20112) ∧ w'.cell? ⟨gb20117, 2, none⟩ = some (.int .i64 t20113) ∧ w'.cell? ⟨gb20117, 3, none⟩ = some (.slice Ao26 t20114.length co26) ∧ w'.cell? ⟨gb20101, 0, none⟩ = some (.int .i64 a0_0) ∧ w'.cell? ⟨gb20101, 1, none⟩ = some (.int .i64 a0_1) ∧ w'.cell? ⟨gb20101, 2, none⟩ = some (.int .i64 a0_2) ∧ w'.cell? ⟨gb20101, 3, none⟩ = some (.slice A0_3 l0_3.length c0_3)) (ds := []) #[false, false, false, false, false] (by kernel_rfl) rfl rfl ⟨(blk_cell BK20117.out 0).trans rfl, (blk_cell BK20117.out 1).trans rfl, (blk_cell BK20117.out 2).trans rfl, (blk_cell BK20117.out 3).trans rfl, (blk_cell BK20101.out 0).trans rfl, (blk_cell BK20101.out 1).trans rfl, (blk_cell BK20101.out 2).trans rfl, (blk_cell BK20101.out 3).trans rfl⟩ (fun hHeld => ?_)
            generalize wc.drew = w33 at HO_20118003 BK20101 BK20117 HB hHeld ⊢
            refine take_ (i := 0) (N := some 43) (v := ?_) (a' := ?_) #[true, false, false, false, false] rfl rfl (by kernel_rfl) (fun _ _ _ h => h) (Or.inl ⟨by rfl, ?_⟩) hHeld ?_ ?_
            rotate_left
            · rintro w' ⟨s0, s1, s2, s3, s4, s5, s6, s7⟩
              go_simp
              with_reducible rfl
            rotate_left
            · simp only [Act.put, List.setIfInBounds_toArray, List.set_cons_zero, List.set_cons_succ, i64_w, i32_w]
              rfl
            refine take_ (i := 1) (N := some 44) (v := ?_) (a' := ?_) #[true, true, false, false, false] rfl rfl (by kernel_rfl) (fun _ _ _ h => h) (Or.inl ⟨by rfl, ?_⟩) hHeld ?_ ?_
            rotate_left
            · rintro w' ⟨s0, s1, s2, s3, s4, s5, s6, s7⟩
              go_simp
              with_reducible rfl
            rotate_left
            · simp only [Act.put, List.setIfInBounds_toArray, List.set_cons_zero, List.set_cons_succ, i64_w, i32_w]
              rfl
            refine one_ (i := 2) (N := some 45) #[true, true, true, false, false] rfl rfl (by kernel_rfl) (by decide) (fun K hK => ?_)
            refine goes_ Try.func39 (by kernel_rfl) rfl #[.agg #[.int .i64 a0_0, .int .i64 a0_1, .int .i64 a0_2, .slice A0_3 l0_3.length c0_3]] (by rfl) rfl rfl (by (try simp only [List.map_toArray, List.map_cons, List.map_nil]); first | done | rfl | (simp only [List.length_drop, List.length_take]; rfl)) ?_
            with_reducible refine (laws_toBoard.calls kj12 a0_0 a0_1 a0_2 _ _ l0_3 t20120 t20121 t20122 t20123 _ ?side1 ?side2 A30.out).mono ?_
            (case side1 => repeat (first | exact (Kd.C_below HR0_3.out HB.out) | (with_reducible refine Kd.C_alloc ?_ _) | (with_reducible refine Kd.C_drewN ?_ _) | (with_reducible refine Kd.C_drew ?_)))
            (case side2 => exact HC0_3.out)
            rintro e w34 ⟨v20124, rfl, ho0, hb⟩
            refine ⟨_, rfl, ?_⟩
            have n0_ := Aside0.mk (Kd.R_elder' (by (with_reducible repeat (first | apply Kd.R_alloc | apply Kd.R_drewN | apply Kd.R_drew)); exact HO_20118003.out) (Kd.R_base ho0) hb)
            have n1_ := Aside0.mk (Kd.R_lower (Kd.R_new' ho0 (Kd.R_lt (by (with_reducible repeat (first | apply Kd.R_alloc | apply Kd.R_drewN | apply Kd.R_drew)); exact HO_20118003.out))) (below_size (by repeat (first | (with_reducible first | exact HB.out | apply below_alloc | apply pw_below_drewN | apply below_drew1 | refine below_set ?_ GE20101.out | refine below_set ?_ GE20117.out) | exact HB.out))))
            have n2_ := Aside0.mk (blk_below (g := gb20101) (o := .cells #[.int .i64 a0_0, .int .i64 a0_1, .int .i64 a0_2, .slice A0_3 l0_3.length c0_3] 24 (0, 0)) (by (with_reducible repeat (first | refine blk_drewN ?_ _ | refine blk_drew ?_ | refine blk_alloc ?_ _)); exact BK20101.out) hb)
            have n3_ := Aside0.mk (blk_below (g := gb20117) (o := .cells #[.int .i64 t20111, .int .i64 t20112, .int .i64 t20113, .slice Ao26 t20114.length co26] 32 (0, 0)) (by (with_reducible repeat (first | refine blk_drewN ?_ _ | refine blk_drew ?_ | refine blk_alloc ?_ _)); exact BK20117.out) hb)
            have n4_ := Aside0.mk (below_step (by repeat (first | (with_reducible first | exact HB.out | apply below_alloc | apply pw_below_drewN | apply below_drew1 | refine below_set ?_ GE20101.out | refine below_set ?_ GE20117.out) | exact HB.out)) hb)
            clear HO_20118003
            clear BK20101
            clear BK20117
            clear HB
            have HO_20118003 := n0_
            have HO20125 := n1_
            have BK20101 := n2_
            have BK20117 := n3_
            have HB := n4_
            clear n0_ n1_ n2_ n3_ n4_
            (try clear hb)
            (try clear hb2)
            (try clear hk)
            (try clear hi)
            (try clear ho0)
            obtain ⟨Ao35, co35, eo35⟩ := Kd.R_slice HO20125.out
            (first | subst eo35 | (injection eo35 with f1_ f2_ f3_; have f4_ := f1_.symm; have f5_ := f3_.symm; clear f1_ f2_ f3_; subst f4_; subst f5_))
            refine hK.out _ _ ⟨(blk_cell BK20117.out 0).trans rfl, (blk_cell BK20117.out 1).trans rfl, (blk_cell BK20117.out 2).trans rfl, (blk_cell BK20117.out 3).trans rfl, (blk_cell BK20101.out 0).trans rfl, (blk_cell BK20101.out 1).trans rfl, (blk_cell BK20101.out 2).trans rfl, (blk_cell BK20101.out 3).trans rfl⟩ (fun hHeld => ?_)
            clear hK K
            refine norm_ (a' := ?_) ?_ ?_
            rotate_left
            · show Act.put _ (some 45) _ = _
              simp only [Act.put, List.setIfInBounds_toArray, List.set_cons_zero, List.set_cons_succ, i64_w, i32_w]
              rfl
            refine one_ (i := 3) (N := some 46) #[true, true, true, true, false] rfl rfl (by kernel_rfl) (by decide) (fun K hK => ?_)
            refine goes_ Try.func42 (by kernel_rfl) rfl #[.agg #[.int .i64 t20111, .int .i64 t20112, .int .i64 t20113, .slice Ao26 t20114.length co26], .agg #[.int .i64 t20120, .int .i64 t20121, .int .i64 t20122, .slice Ao35 t20123.length co35]] (by rfl) rfl rfl (by (try simp only [List.map_toArray, List.map_cons, List.map_nil]); first | done | rfl | (simp only [List.length_drop, List.length_take]; rfl)) ?_
            with_reducible refine (laws_eqBoard.calls kj12 t20111 t20112 t20113 _ _ t20114 t20120 t20121 t20122 _ _ t20123 true _ ?side1 ?side2 ?side3 ?side4 A31.out).mono ?_
            (case side1 => repeat (first | exact (Kd.R_reads' HO_20118003.out).2.2 | (with_reducible refine Kd.C_alloc ?_ _) | (with_reducible refine Kd.C_drewN ?_ _) | (with_reducible refine Kd.C_drew ?_)))
            (case side2 => exact (Kd.R_reads' HO_20118003.out).2.1)
            (case side3 => repeat (first | exact (Kd.R_reads' HO20125.out).2.2 | (with_reducible refine Kd.C_alloc ?_ _) | (with_reducible refine Kd.C_drewN ?_ _) | (with_reducible refine Kd.C_drew ?_)))
            (case side4 => exact (Kd.R_reads' HO20125.out).2.1)
            rintro e w36 ⟨rfl, hb⟩
            refine ⟨_, rfl, ?_⟩
            have n0_ := Aside0.mk (Kd.R_below (by (with_reducible repeat (first | apply Kd.R_alloc | apply Kd.R_drewN | apply Kd.R_drew)); exact HO_20118003.out) hb)
            have n1_ := Aside0.mk (Kd.R_below (by (with_reducible repeat (first | apply Kd.R_alloc | apply Kd.R_drewN | apply Kd.R_drew)); exact HO20125.out) hb)
            have n2_ := Aside0.mk (blk_below (g := gb20101) (o := .cells #[.int .i64 a0_0, .int .i64 a0_1, .int .i64 a0_2, .slice A0_3 l0_3.length c0_3] 24 (0, 0)) (by (with_reducible repeat (first | refine blk_drewN ?_ _ | refine blk_drew ?_ | refine blk_alloc ?_ _)); exact BK20101.out) hb)
            have n3_ := Aside0.mk (blk_below (g := gb20117) (o := .cells #[.int .i64 t20111, .int .i64 t20112, .int .i64 t20113, .slice Ao26 t20114.length co26] 32 (0, 0)) (by (with_reducible repeat (first | refine blk_drewN ?_ _ | refine blk_drew ?_ | refine blk_alloc ?_ _)); exact BK20117.out) hb)
            have n4_ := Aside0.mk (below_step (by repeat (first | (with_reducible first | exact HB.out | apply below_alloc | apply pw_below_drewN | apply below_drew1 | refine below_set ?_ GE20101.out | refine below_set ?_ GE20117.out) | exact HB.out)) hb)
            clear HO_20118003
            clear HO20125
            clear BK20101
            clear BK20117
            clear HB
            have HO_20118003 := n0_
            have HO20125 := n1_
            have BK20101 := n2_
            have BK20117 := n3_
            have HB := n4_
            clear n0_ n1_ n2_ n3_ n4_
            (try clear hb)
            (try clear hb2)
            (try clear hk)
            (try clear hi)
            refine hK.out _ _ ⟨(blk_cell BK20117.out 0).trans rfl, (blk_cell BK20117.out 1).trans rfl, (blk_cell BK20117.out 2).trans rfl, (blk_cell BK20117.out 3).trans rfl, (blk_cell BK20101.out 0).trans rfl, (blk_cell BK20101.out 1).trans rfl, (blk_cell BK20101.out 2).trans rfl, (blk_cell BK20101.out 3).trans rfl⟩ (fun hHeld => ?_)
            clear hK K
            refine norm_ (a' := ?_) ?_ ?_
            rotate_left
            · show Act.put _ (some 46) _ = _
              simp only [Act.put, List.setIfInBounds_toArray, List.set_cons_zero, List.set_cons_succ, i64_w, i32_w]
              rfl
            refine pure_ (i := 4) (N := some 47) (v := ?_) (a' := ?_) #[true, true, true, true, true] rfl rfl (by kernel_rfl) (fun _ _ _ h => h) (Or.inl ⟨by rfl, ?_⟩) ?_ ?_
            rotate_left
            · intro w'
              go_simp
              with_reducible rfl
            rotate_left
            · simp only [Act.put, List.setIfInBounds_toArray, List.set_cons_zero, List.set_cons_succ, i64_w, i32_w]
              rfl
            refine done_ (by kernel_rfl) ?_
            try go_wp2
            go_ret
            exact ⟨by first | rfl | (simp [errW_none, errW_some] <;> rfl) | (simp [*, errW_none, errW_some] <;> rfl), by repeat (first | (with_reducible first | exact HB.out | apply below_alloc | apply pw_below_drewN | apply below_drew1 | refine below_set ?_ GE20101.out | refine below_set ?_ GE20117.out) | exact HB.out)⟩
          · replace c32 := Bool.eq_false_iff.mpr c32
            subst c32
            have H1 : (some false) = some r := by rw [if_neg (show ¬ (false = true) by decide)] at H; exact H
            clear H
            have H := H1
            clear H1
            obtain rfl := Option.some.inj H
            try go_wp2
            have n0_ := Aside0.mk (Kd.R_drew HO_20118003.out)
            have n1_ := Aside0.mk (blk_drew BK20101.out)
            have n2_ := Aside0.mk (blk_drew BK20117.out)
            have n3_ := Aside0.mk (below_drew1 HB.out)
            clear HO_20118003
            clear BK20101
            clear BK20117
            clear HB
            have HO_20118003 := n0_
            have BK20101 := n1_
            have BK20117 := n2_
            have HB := n3_
            clear n0_ n1_ n2_ n3_
            refine start_ (n := 5) (S := fun w' => w'.cell? ⟨gb20117, 0, none⟩ = some (.int .i64 t20111) ∧ w'.cell? ⟨gb20117, 1, none⟩ = some (.int .i64 t20112) ∧ w'.cell? ⟨gb20117, 2, none⟩ = some (.int .i64 t20113) ∧ w'.cell? ⟨gb20117, 3, none⟩ = some (.slice Ao26 t20114.length co26) ∧ w'.cell? ⟨gb20101, 0, none⟩ = some (.int .i64 a0_0) ∧ w'.cell? ⟨gb20101, 1, none⟩ = some (.int .i64 a0_1) ∧ w'.cell? ⟨gb20101, 2, none⟩ = some (.int .i64 a0_2) ∧ w'.cell? ⟨gb20101, 3, none⟩ = some (.slice A0_3 l0_3.length c0_3)) (ds := []) #[false, false, false, false, false] (by kernel_rfl) rfl rfl ⟨(blk_cell BK20117.out 0).trans rfl, (blk_cell BK20117.out 1).trans rfl, (blk_cell BK20117.out 2).trans rfl, (blk_cell BK20117.out 3).trans rfl, (blk_cell BK20101.out 0).trans rfl, (blk_cell BK20101.out 1).trans rfl, (blk_cell BK20101.out 2).trans rfl, (blk_cell BK20101.out 3).trans rfl⟩ (fun hHeld => ?_)
            generalize wc.drew = w37 at HO_20118003 BK20101 BK20117 HB hHeld ⊢
            refine take_ (i := 0) (N := some 43) (v := ?_) (a' := ?_) #[true, false, false, false, false] rfl rfl (by kernel_rfl) (fun _ _ _ h => h) (Or.inl ⟨by rfl, ?_⟩) hHeld ?_ ?_
            rotate_left
            · rintro w' ⟨s0, s1, s2, s3, s4, s5, s6, s7⟩
              go_simp
              with_reducible rfl
            rotate_left
            · simp only [Act.put, List.setIfInBounds_toArray, List.set_cons_zero, List.set_cons_succ, i64_w, i32_w]
              rfl
            refine take_ (i := 1) (N := some 44) (v := ?_) (a' := ?_) #[true, true, false, false, false] rfl rfl (by kernel_rfl) (fun _ _ _ h => h) (Or.inl ⟨by rfl, ?_⟩) hHeld ?_ ?_
            rotate_left
            · rintro w' ⟨s0, s1, s2, s3, s4, s5, s6, s7⟩
              go_simp
              with_reducible rfl
            rotate_left
            · simp only [Act.put, List.setIfInBounds_toArray, List.set_cons_zero, List.set_cons_succ, i64_w, i32_w]
              rfl
            refine one_ (i := 2) (N := some 45) #[true, true, true, false, false] rfl rfl (by kernel_rfl) (by decide) (fun K hK => ?_)
            refine goes_ Try.func39 (by kernel_rfl) rfl #[.agg #[.int .i64 a0_0, .int .i64 a0_1, .int .i64 a0_2, .slice A0_3 l0_3.length c0_3]] (by rfl) rfl rfl (by (try simp only [List.map_toArray, List.map_cons, List.map_nil]); first | done | rfl | (simp only [List.length_drop, List.length_take]; rfl)) ?_
            with_reducible refine (laws_toBoard.calls kj12 a0_0 a0_1 a0_2 _ _ l0_3 t20120 t20121 t20122 t20123 _ ?side1 ?side2 A30.out).mono ?_
            (case side1 => repeat (first | exact (Kd.C_below HR0_3.out HB.out) | (with_reducible refine Kd.C_alloc ?_ _) | (with_reducible refine Kd.C_drewN ?_ _) | (with_reducible refine Kd.C_drew ?_)))
            (case side2 => exact HC0_3.out)
            rintro e w38 ⟨v20124, rfl, ho0, hb⟩
            refine ⟨_, rfl, ?_⟩
            have n0_ := Aside0.mk (Kd.R_elder' (by (with_reducible repeat (first | apply Kd.R_alloc | apply Kd.R_drewN | apply Kd.R_drew)); exact HO_20118003.out) (Kd.R_base ho0) hb)
            have n1_ := Aside0.mk (Kd.R_lower (Kd.R_new' ho0 (Kd.R_lt (by (with_reducible repeat (first | apply Kd.R_alloc | apply Kd.R_drewN | apply Kd.R_drew)); exact HO_20118003.out))) (below_size (by repeat (first | (with_reducible first | exact HB.out | apply below_alloc | apply pw_below_drewN | apply below_drew1 | refine below_set ?_ GE20101.out | refine below_set ?_ GE20117.out) | exact HB.out))))
            have n2_ := Aside0.mk (blk_below (g := gb20101) (o := .cells #[.int .i64 a0_0, .int .i64 a0_1, .int .i64 a0_2, .slice A0_3 l0_3.length c0_3] 24 (0, 0)) (by (with_reducible repeat (first | refine blk_drewN ?_ _ | refine blk_drew ?_ | refine blk_alloc ?_ _)); exact BK20101.out) hb)
            have n3_ := Aside0.mk (blk_below (g := gb20117) (o := .cells #[.int .i64 t20111, .int .i64 t20112, .int .i64 t20113, .slice Ao26 t20114.length co26] 32 (0, 0)) (by (with_reducible repeat (first | refine blk_drewN ?_ _ | refine blk_drew ?_ | refine blk_alloc ?_ _)); exact BK20117.out) hb)
            have n4_ := Aside0.mk (below_step (by repeat (first | (with_reducible first | exact HB.out | apply below_alloc | apply pw_below_drewN | apply below_drew1 | refine below_set ?_ GE20101.out | refine below_set ?_ GE20117.out) | exact HB.out)) hb)
            clear HO_20118003
            clear BK20101
            clear BK20117
            clear HB
            have HO_20118003 := n0_
            have HO20125 := n1_
            have BK20101 := n2_
            have BK20117 := n3_
            have HB := n4_
            clear n0_ n1_ n2_ n3_ n4_
            (try clear hb)
            (try clear hb2)
            (try clear hk)
            (try clear hi)
            (try clear ho0)
            obtain ⟨Ao39, co39, eo39⟩ := Kd.R_slice HO20125.out
            (first | subst eo39 | (injection eo39 with f1_ f2_ f3_; have f4_ := f1_.symm; have f5_ := f3_.symm; clear f1_ f2_ f3_; subst f4_; subst f5_))
            refine hK.out _ _ ⟨(blk_cell BK20117.out 0).trans rfl, (blk_cell BK20117.out 1).trans rfl, (blk_cell BK20117.out 2).trans rfl, (blk_cell BK20117.out 3).trans rfl, (blk_cell BK20101.out 0).trans rfl, (blk_cell BK20101.out 1).trans rfl, (blk_cell BK20101.out 2).trans rfl, (blk_cell BK20101.out 3).trans rfl⟩ (fun hHeld => ?_)
            clear hK K
            refine norm_ (a' := ?_) ?_ ?_
            rotate_left
            · show Act.put _ (some 45) _ = _
              simp only [Act.put, List.setIfInBounds_toArray, List.set_cons_zero, List.set_cons_succ, i64_w, i32_w]
              rfl
            refine one_ (i := 3) (N := some 46) #[true, true, true, true, false] rfl rfl (by kernel_rfl) (by decide) (fun K hK => ?_)
            refine goes_ Try.func42 (by kernel_rfl) rfl #[.agg #[.int .i64 t20111, .int .i64 t20112, .int .i64 t20113, .slice Ao26 t20114.length co26], .agg #[.int .i64 t20120, .int .i64 t20121, .int .i64 t20122, .slice Ao39 t20123.length co39]] (by rfl) rfl rfl (by (try simp only [List.map_toArray, List.map_cons, List.map_nil]); first | done | rfl | (simp only [List.length_drop, List.length_take]; rfl)) ?_
            with_reducible refine (laws_eqBoard.calls kj12 t20111 t20112 t20113 _ _ t20114 t20120 t20121 t20122 _ _ t20123 false _ ?side1 ?side2 ?side3 ?side4 A31.out).mono ?_
            (case side1 => repeat (first | exact (Kd.R_reads' HO_20118003.out).2.2 | (with_reducible refine Kd.C_alloc ?_ _) | (with_reducible refine Kd.C_drewN ?_ _) | (with_reducible refine Kd.C_drew ?_)))
            (case side2 => exact (Kd.R_reads' HO_20118003.out).2.1)
            (case side3 => repeat (first | exact (Kd.R_reads' HO20125.out).2.2 | (with_reducible refine Kd.C_alloc ?_ _) | (with_reducible refine Kd.C_drewN ?_ _) | (with_reducible refine Kd.C_drew ?_)))
            (case side4 => exact (Kd.R_reads' HO20125.out).2.1)
            rintro e w40 ⟨rfl, hb⟩
            refine ⟨_, rfl, ?_⟩
            have n0_ := Aside0.mk (Kd.R_below (by (with_reducible repeat (first | apply Kd.R_alloc | apply Kd.R_drewN | apply Kd.R_drew)); exact HO_20118003.out) hb)
            have n1_ := Aside0.mk (Kd.R_below (by (with_reducible repeat (first | apply Kd.R_alloc | apply Kd.R_drewN | apply Kd.R_drew)); exact HO20125.out) hb)
            have n2_ := Aside0.mk (blk_below (g := gb20101) (o := .cells #[.int .i64 a0_0, .int .i64 a0_1, .int .i64 a0_2, .slice A0_3 l0_3.length c0_3] 24 (0, 0)) (by (with_reducible repeat (first | refine blk_drewN ?_ _ | refine blk_drew ?_ | refine blk_alloc ?_ _)); exact BK20101.out) hb)
            have n3_ := Aside0.mk (blk_below (g := gb20117) (o := .cells #[.int .i64 t20111, .int .i64 t20112, .int .i64 t20113, .slice Ao26 t20114.length co26] 32 (0, 0)) (by (with_reducible repeat (first | refine blk_drewN ?_ _ | refine blk_drew ?_ | refine blk_alloc ?_ _)); exact BK20117.out) hb)
            have n4_ := Aside0.mk (below_step (by repeat (first | (with_reducible first | exact HB.out | apply below_alloc | apply pw_below_drewN | apply below_drew1 | refine below_set ?_ GE20101.out | refine below_set ?_ GE20117.out) | exact HB.out)) hb)
            clear HO_20118003
            clear HO20125
            clear BK20101
            clear BK20117
            clear HB
            have HO_20118003 := n0_
            have HO20125 := n1_
            have BK20101 := n2_
            have BK20117 := n3_
            have HB := n4_
            clear n0_ n1_ n2_ n3_ n4_
            (try clear hb)
            (try clear hb2)
            (try clear hk)
            (try clear hi)
            refine hK.out _ _ ⟨(blk_cell BK20117.out 0).trans rfl, (blk_cell BK20117.out 1).trans rfl, (blk_cell BK20117.out 2).trans rfl, (blk_cell BK20117.out 3).trans rfl, (blk_cell BK20101.out 0).trans rfl, (blk_cell BK20101.out 1).trans rfl, (blk_cell BK20101.out 2).trans rfl, (blk_cell BK20101.out 3).trans rfl⟩ (fun hHeld => ?_)
            clear hK K
            refine norm_ (a' := ?_) ?_ ?_
            rotate_left
            · show Act.put _ (some 46) _ = _
              simp only [Act.put, List.setIfInBounds_toArray, List.set_cons_zero, List.set_cons_succ, i64_w, i32_w]
              rfl
            refine pure_ (i := 4) (N := some 47) (v := ?_) (a' := ?_) #[true, true, true, true, true] rfl rfl (by kernel_rfl) (fun _ _ _ h => h) (Or.inl ⟨by rfl, ?_⟩) ?_ ?_
            rotate_left
            · intro w'
              go_simp
              with_reducible rfl
            rotate_left
            · simp only [Act.put, List.setIfInBounds_toArray, List.set_cons_zero, List.set_cons_succ, i64_w, i32_w]
              rfl
            refine done_ (by kernel_rfl) ?_
            try go_wp2
            go_ret
            exact ⟨by first | rfl | (simp [errW_none, errW_some] <;> rfl) | (simp [*, errW_none, errW_some] <;> rfl), by repeat (first | (with_reducible first | exact HB.out | apply below_alloc | apply pw_below_drewN | apply below_drew1 | refine below_set ?_ GE20101.out | refine below_set ?_ GE20117.out) | exact HB.out)⟩

end Go.Proofs.Ytkobjjadojpjfaa.Pr
