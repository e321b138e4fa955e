-- A text of the machine side, written by wip/gen.py of this repo out of the translation. Not trusted: Lean checks it.
import Derived.Test.YtkobjjadojpjfaaF0
import Derived.Test.YtkobjjadojpjfaaFGA
import Derived.Test.YtkobjjadojpjfaaFImplLikeliestAt
import Derived.Test.YtkobjjadojpjfaaFSpecLikeliestAt
namespace Go.Proofs.Ytkobjjadojpjfaa.Pr
open Go.RowKit Go.Proofs.YtkobjjadojpjfaaW.PrintWords Go.Proofs.YtkobjjadojpjfaaW.PrintLast Go.Proofs.YtkobjjadojpjfaaW.PrintMore
attribute [local go_sem] max2_int min2_int max_two min_two max_three min_three max_four min_four   -- for this text's walks alone
set_option linter.unusedVariables false
set_option linter.unusedSimpArgs false

/-! ### laws_FnExactLikeliestAt: function 22 -/
mutual
def laws_FnExactLikeliestAt.j0 : Nat → Int → Int → List Int → Bool → List Int → Bool → Bool → Int → Int → Int → List (S82) → Int → Int → Int → List (S27) → Option (Bool)
  | 0, _, _, _, _, _, _, _, _, _, _, _, _, _, _, _ => none
  | k + 1, x1, x2, x8, x9, x11, x12, x48, x44102000, x44102001, x44102002, x44102003, x44120000, x44120001, x44120002, x44120003 => if x48 = true then (some false) else ((laws_toBoard.f k x44102000 x44102001 x44102002 x44102003).bind fun bt44125 => ((laws_eqBoard.f k x44120000 x44120001 x44120002 x44120003 bt44125.1 bt44125.2.1 bt44125.2.2.1 bt44125.2.2.2).bind fun t44131 => (if t44131 = true then ((laws_markBoard.f k x44120000 x44120001 x44120002 x44120003 1).bind fun bt44132 => (if bt44132.1 < 0 then (laws_FnExactLikeliestAt.j1 k x1 x2 x8 x9 x11 true x44102000 x44102001 x44102002 x44102003) else ((laws_eqIntS.f k x11 x8).bind fun t44134 => (if t44134 = true then (laws_FnExactLikeliestAt.j1 k x1 x2 x8 x9 x11 (x12 != x9) x44102000 x44102001 x44102002 x44102003) else (laws_FnExactLikeliestAt.j1 k x1 x2 x8 x9 x11 true x44102000 x44102001 x44102002 x44102003))))) else (some false))))
def laws_FnExactLikeliestAt.j1 : Nat → Int → Int → List Int → Bool → List Int → Bool → Int → Int → Int → List (S82) → Option (Bool)
  | 0, _, _, _, _, _, _, _, _, _, _ => none
  | k + 1, x1, x2, x8, x9, x11, x69, x44102000, x44102001, x44102002, x44102003 => if x69 = true then (some false) else ((laws_markIntS.f k x11 1).bind fun bt44135 => ((laws_heldIntS.f k bt44135.2 1).bind fun t44137 => (if t44137 < 0 then (some false) else (if t44137 = bt44135.1 then ((laws_toBoard.f k x44102000 x44102001 x44102002 x44102003).bind fun bt44138 => ((impl_LikeliestAt.f k bt44138.1 bt44138.2.1 bt44138.2.2.1 bt44138.2.2.2 x1 x2).bind fun bt44144 => ((laws_eqIntS.f k bt44144.1 x8).bind fun t44148 => (if t44148 = true then (laws_FnExactLikeliestAt.j2 k bt44135.2 bt44135.1 (bt44144.2 != x9)) else (laws_FnExactLikeliestAt.j2 k bt44135.2 bt44135.1 true))))) else (some false)))))
def laws_FnExactLikeliestAt.j2 : Nat → List Int → Int → Bool → Option (Bool)
  | 0, _, _, _ => none
  | k + 1, x11, x14, x97 => if x97 = true then (some false) else ((laws_heldIntS.f k x11 1).bind fun t44149 => (if t44149 < 0 then (some false) else (if t44149 = x14 then (some true) else (some false))))
end
def laws_FnExactLikeliestAt.f (k : Nat) (a0_0 : Int) (a0_1 : Int) (a0_2 : Int) (l0_3 : List (S82)) (a1 : Int) (a2 : Int) : Option (Bool) := (laws_szBoard.f a0_0 a0_1 a0_2 l0_3 1048576).bind fun t44102 => (if t44102 < 0 then (some true) else ((laws_toBoard.f k a0_0 a0_1 a0_2 l0_3).bind fun bt44103 => ((spec_LikeliestAt.f k bt44103.1 bt44103.2.1 bt44103.2.2.1 bt44103.2.2.2 a1 a2).bind fun bt44109 => ((laws_toBoard.f k a0_0 a0_1 a0_2 l0_3).bind fun bt44113 => ((impl_LikeliestAt.f k bt44113.1 bt44113.2.1 bt44113.2.2.1 bt44113.2.2.2 a1 a2).bind fun bt44120 => ((laws_eqIntS.f k bt44120.1 bt44109.1).bind fun t44124 => (if t44124 = true then (laws_FnExactLikeliestAt.j0 k a1 a2 bt44109.1 bt44109.2 bt44120.1 bt44120.2 (bt44120.2 != bt44109.2) a0_0 a0_1 a0_2 l0_3 bt44113.1 bt44113.2.1 bt44113.2.2.1 bt44113.2.2.2) else (laws_FnExactLikeliestAt.j0 k a1 a2 bt44109.1 bt44109.2 bt44120.1 bt44120.2 true a0_0 a0_1 a0_2 l0_3 bt44113.1 bt44113.2.1 bt44113.2.2.1 bt44113.2.2.2))))))))
theorem laws_FnExactLikeliestAt.mono_l : ∀ k, (∀ y0 y1 y2 y3 y4 y5 y6 y7 y8 y9 y10 y11 y12 y13 y14, LeO (laws_FnExactLikeliestAt.j0 k y0 y1 y2 y3 y4 y5 y6 y7 y8 y9 y10 y11 y12 y13 y14) (laws_FnExactLikeliestAt.j0 (k + 1) y0 y1 y2 y3 y4 y5 y6 y7 y8 y9 y10 y11 y12 y13 y14)) ∧ (∀ y0 y1 y2 y3 y4 y5 y6 y7 y8 y9, LeO (laws_FnExactLikeliestAt.j1 k y0 y1 y2 y3 y4 y5 y6 y7 y8 y9) (laws_FnExactLikeliestAt.j1 (k + 1) y0 y1 y2 y3 y4 y5 y6 y7 y8 y9)) ∧ (∀ y0 y1 y2, LeO (laws_FnExactLikeliestAt.j2 k y0 y1 y2) (laws_FnExactLikeliestAt.j2 (k + 1) y0 y1 y2))
  | 0 => ⟨fun _ _ _ _ _ _ _ _ _ _ _ _ _ _ _ r h => by simp [laws_FnExactLikeliestAt.j0] at h, fun _ _ _ _ _ _ _ _ _ _ r h => by simp [laws_FnExactLikeliestAt.j1] at h, fun _ _ _ r h => by simp [laws_FnExactLikeliestAt.j2] at h⟩
  | k + 1 => by
    obtain ⟨ih0, ih1, ih2⟩ := laws_FnExactLikeliestAt.mono_l k
    refine ⟨?_, ?_, ?_⟩
    · intro y0 y1 y2 y3 y4 y5 y6 y7 y8 y9 y10 y11 y12 y13 y14
      unfold laws_FnExactLikeliestAt.j0
      repeat' first
      | (with_reducible exact ih0 _ _ _ _ _ _ _ _ _ _ _ _ _ _ _)
      | (with_reducible exact ih1 _ _ _ _ _ _ _ _ _ _)
      | (with_reducible exact ih2 _ _ _)
      | (with_reducible exact impl_LikeliestAt.mono _ _ _ _ _ _ _)
      | (with_reducible exact laws_eqBoard.mono _ _ _ _ _ _ _ _ _)
      | (with_reducible exact laws_eqIntS.mono _ _ _)
      | (with_reducible exact laws_heldIntS.mono _ _ _)
      | (with_reducible exact laws_markBoard.mono _ _ _ _ _ _)
      | (with_reducible exact laws_markIntS.mono _ _ _)
      | (with_reducible exact laws_toBoard.mono _ _ _ _ _)
      | (with_reducible exact spec_LikeliestAt.mono _ _ _ _ _ _ _)
      | (with_reducible exact LeO.refl _)
      | (with_reducible exact LeO.none _)
      | (with_reducible refine LeO.ite ?_ ?_)
      | (with_reducible refine LeO.bind ?_ (fun _ => ?_))
      | exact ih0 _ _ _ _ _ _ _ _ _ _ _ _ _ _ _
      | exact ih1 _ _ _ _ _ _ _ _ _ _
      | exact ih2 _ _ _
      | exact impl_LikeliestAt.mono _ _ _ _ _ _ _
      | exact laws_eqBoard.mono _ _ _ _ _ _ _ _ _
      | exact laws_eqIntS.mono _ _ _
      | exact laws_heldIntS.mono _ _ _
      | exact laws_markBoard.mono _ _ _ _ _ _
      | exact laws_markIntS.mono _ _ _
      | exact laws_toBoard.mono _ _ _ _ _
      | exact spec_LikeliestAt.mono _ _ _ _ _ _ _
      | exact LeO.none _
      | refine LeO.ite ?_ ?_
      | refine LeO.bind ?_ (fun _ => ?_)
    · intro y0 y1 y2 y3 y4 y5 y6 y7 y8 y9
      unfold laws_FnExactLikeliestAt.j1
      repeat' first
      | (with_reducible exact ih0 _ _ _ _ _ _ _ _ _ _ _ _ _ _ _)
      | (with_reducible exact ih1 _ _ _ _ _ _ _ _ _ _)
      | (with_reducible exact ih2 _ _ _)
      | (with_reducible exact impl_LikeliestAt.mono _ _ _ _ _ _ _)
      | (with_reducible exact laws_eqBoard.mono _ _ _ _ _ _ _ _ _)
      | (with_reducible exact laws_eqIntS.mono _ _ _)
      | (with_reducible exact laws_heldIntS.mono _ _ _)
      | (with_reducible exact laws_markBoard.mono _ _ _ _ _ _)
      | (with_reducible exact laws_markIntS.mono _ _ _)
      | (with_reducible exact laws_toBoard.mono _ _ _ _ _)
      | (with_reducible exact spec_LikeliestAt.mono _ _ _ _ _ _ _)
      | (with_reducible exact LeO.refl _)
      | (with_reducible exact LeO.none _)
      | (with_reducible refine LeO.ite ?_ ?_)
      | (with_reducible refine LeO.bind ?_ (fun _ => ?_))
      | exact ih0 _ _ _ _ _ _ _ _ _ _ _ _ _ _ _
      | exact ih1 _ _ _ _ _ _ _ _ _ _
      | exact ih2 _ _ _
      | exact impl_LikeliestAt.mono _ _ _ _ _ _ _
      | exact laws_eqBoard.mono _ _ _ _ _ _ _ _ _
      | exact laws_eqIntS.mono _ _ _
      | exact laws_heldIntS.mono _ _ _
      | exact laws_markBoard.mono _ _ _ _ _ _
      | exact laws_markIntS.mono _ _ _
      | exact laws_toBoard.mono _ _ _ _ _
      | exact spec_LikeliestAt.mono _ _ _ _ _ _ _
      | exact LeO.none _
      | refine LeO.ite ?_ ?_
      | refine LeO.bind ?_ (fun _ => ?_)
    · intro y0 y1 y2
      unfold laws_FnExactLikeliestAt.j2
      repeat' first
      | (with_reducible exact ih0 _ _ _ _ _ _ _ _ _ _ _ _ _ _ _)
      | (with_reducible exact ih1 _ _ _ _ _ _ _ _ _ _)
      | (with_reducible exact ih2 _ _ _)
      | (with_reducible exact impl_LikeliestAt.mono _ _ _ _ _ _ _)
      | (with_reducible exact laws_eqBoard.mono _ _ _ _ _ _ _ _ _)
      | (with_reducible exact laws_eqIntS.mono _ _ _)
      | (with_reducible exact laws_heldIntS.mono _ _ _)
      | (with_reducible exact laws_markBoard.mono _ _ _ _ _ _)
      | (with_reducible exact laws_markIntS.mono _ _ _)
      | (with_reducible exact laws_toBoard.mono _ _ _ _ _)
      | (with_reducible exact spec_LikeliestAt.mono _ _ _ _ _ _ _)
      | (with_reducible exact LeO.refl _)
      | (with_reducible exact LeO.none _)
      | (with_reducible refine LeO.ite ?_ ?_)
      | (with_reducible refine LeO.bind ?_ (fun _ => ?_))
      | exact ih0 _ _ _ _ _ _ _ _ _ _ _ _ _ _ _
      | exact ih1 _ _ _ _ _ _ _ _ _ _
      | exact ih2 _ _ _
      | exact impl_LikeliestAt.mono _ _ _ _ _ _ _
      | exact laws_eqBoard.mono _ _ _ _ _ _ _ _ _
      | exact laws_eqIntS.mono _ _ _
      | exact laws_heldIntS.mono _ _ _
      | exact laws_markBoard.mono _ _ _ _ _ _
      | exact laws_markIntS.mono _ _ _
      | exact laws_toBoard.mono _ _ _ _ _
      | exact spec_LikeliestAt.mono _ _ _ _ _ _ _
      | exact LeO.none _
      | refine LeO.ite ?_ ?_
      | refine LeO.bind ?_ (fun _ => ?_)
theorem laws_FnExactLikeliestAt.mono : ∀ a0 a1 a2 a3 a4 a5 k, LeO (laws_FnExactLikeliestAt.f k a0 a1 a2 a3 a4 a5) (laws_FnExactLikeliestAt.f (k + 1) a0 a1 a2 a3 a4 a5) := by
  intro a0 a1 a2 a3 a4 a5 k
  obtain ⟨ih0, ih1, ih2⟩ := laws_FnExactLikeliestAt.mono_l k
  unfold laws_FnExactLikeliestAt.f
  repeat' first
      | (with_reducible exact ih0 _ _ _ _ _ _ _ _ _ _ _ _ _ _ _)
      | (with_reducible exact ih1 _ _ _ _ _ _ _ _ _ _)
      | (with_reducible exact ih2 _ _ _)
      | (with_reducible exact impl_LikeliestAt.mono _ _ _ _ _ _ _)
      | (with_reducible exact laws_eqBoard.mono _ _ _ _ _ _ _ _ _)
      | (with_reducible exact laws_eqIntS.mono _ _ _)
      | (with_reducible exact laws_heldIntS.mono _ _ _)
      | (with_reducible exact laws_markBoard.mono _ _ _ _ _ _)
      | (with_reducible exact laws_markIntS.mono _ _ _)
      | (with_reducible exact laws_toBoard.mono _ _ _ _ _)
      | (with_reducible exact spec_LikeliestAt.mono _ _ _ _ _ _ _)
      | (with_reducible exact LeO.refl _)
      | (with_reducible exact LeO.none _)
      | (with_reducible refine LeO.ite ?_ ?_)
      | (with_reducible refine LeO.bind ?_ (fun _ => ?_))
      | exact ih0 _ _ _ _ _ _ _ _ _ _ _ _ _ _ _
      | exact ih1 _ _ _ _ _ _ _ _ _ _
      | exact ih2 _ _ _
      | exact impl_LikeliestAt.mono _ _ _ _ _ _ _
      | exact laws_eqBoard.mono _ _ _ _ _ _ _ _ _
      | exact laws_eqIntS.mono _ _ _
      | exact laws_heldIntS.mono _ _ _
      | exact laws_markBoard.mono _ _ _ _ _ _
      | exact laws_markIntS.mono _ _ _
      | exact laws_toBoard.mono _ _ _ _ _
      | exact spec_LikeliestAt.mono _ _ _ _ _ _ _
      | exact LeO.none _
      | refine LeO.ite ?_ ?_
      | refine LeO.bind ?_ (fun _ => ?_)
set_option maxHeartbeats 8000000 in
set_option maxRecDepth 100000 in
theorem laws_FnExactLikeliestAt.calls (k : Nat) (a0_0 : Int) (a0_1 : Int) (a0_2 : Int) (A0_3 : Option Addr) (c0_3 : Nat) (l0_3 : List (S82)) (a1 : Int) (a2 : Int) (r : Bool) (w : World) (hr0_3 : Kd.C k82 w A0_3 l0_3.length l0_3) (hc0_3 : l0_3.length ≤ c0_3) (h : laws_FnExactLikeliestAt.f k a0_0 a0_1 a0_2 l0_3 a1 a2 = some r) :
    Calls Try.prog 22 #[.agg #[.int .i64 a0_0, .int .i64 a0_1, .int .i64 a0_2, .slice A0_3 l0_3.length c0_3], .int .i64 a1, .int .i64 a2] w fun e w' => e = .returned (.bool r) ∧ Below w.heap.size w w' := by
  have hu24 := Try.underlying24
  have hu32 := Try.underlying32
  have HR0_3 := Aside0.mk hr0_3
  have HC0_3 := Aside0.mk hc0_3
  clear hr0_3 hc0_3
  have HB := Aside0.mk (Below.refl w.heap.size w)
  have H : ((laws_szBoard.f a0_0 a0_1 a0_2 l0_3 1048576).bind fun t44102 => (if t44102 < 0 then (some true) else ((laws_toBoard.f k a0_0 a0_1 a0_2 l0_3).bind fun bt44103 => ((spec_LikeliestAt.f k bt44103.1 bt44103.2.1 bt44103.2.2.1 bt44103.2.2.2 a1 a2).bind fun bt44109 => ((laws_toBoard.f k a0_0 a0_1 a0_2 l0_3).bind fun bt44113 => ((impl_LikeliestAt.f k bt44113.1 bt44113.2.1 bt44113.2.2.1 bt44113.2.2.2 a1 a2).bind fun bt44120 => ((laws_eqIntS.f k bt44120.1 bt44109.1).bind fun t44124 => (if t44124 = true then (laws_FnExactLikeliestAt.j0 k a1 a2 bt44109.1 bt44109.2 bt44120.1 bt44120.2 (bt44120.2 != bt44109.2) a0_0 a0_1 a0_2 l0_3 bt44113.1 bt44113.2.1 bt44113.2.2.1 bt44113.2.2.2) else (laws_FnExactLikeliestAt.j0 k a1 a2 bt44109.1 bt44109.2 bt44120.1 bt44120.2 true a0_0 a0_1 a0_2 l0_3 bt44113.1 bt44113.2.1 bt44113.2.2.1 bt44113.2.2.2))))))))) = some r := h
  clear h
  replace H := Option.bind_eq_some_iff.mp H
  obtain ⟨t44102, A40, H⟩ := H
  replace H : (if t44102 < 0 then (some true) else ((laws_toBoard.f k a0_0 a0_1 a0_2 l0_3).bind fun bt44103 => ((spec_LikeliestAt.f k bt44103.1 bt44103.2.1 bt44103.2.2.1 bt44103.2.2.2 a1 a2).bind fun bt44109 => ((laws_toBoard.f k a0_0 a0_1 a0_2 l0_3).bind fun bt44113 => ((impl_LikeliestAt.f k bt44113.1 bt44113.2.1 bt44113.2.2.1 bt44113.2.2.2 a1 a2).bind fun bt44120 => ((laws_eqIntS.f k bt44120.1 bt44109.1).bind fun t44124 => (if t44124 = true then (laws_FnExactLikeliestAt.j0 k a1 a2 bt44109.1 bt44109.2 bt44120.1 bt44120.2 (bt44120.2 != bt44109.2) a0_0 a0_1 a0_2 l0_3 bt44113.1 bt44113.2.1 bt44113.2.2.1 bt44113.2.2.2) else (laws_FnExactLikeliestAt.j0 k a1 a2 bt44109.1 bt44109.2 bt44120.1 bt44120.2 true a0_0 a0_1 a0_2 l0_3 bt44113.1 bt44113.2.1 bt44113.2.2.1 bt44113.2.2.2)))))))) = some r := H
  have A4 := Aside0.mk A40
  clear A40
  by_cases c5 : t44102 < 0
  · rw [if_pos c5] at H
    have c5b0 : decide (t44102 < 0) = true := decide_eq_true c5
    clear c5
    obtain rfl := Option.some.inj H
    go_enter Try.func22, Try.ntmps22
    go_wp2_with (first | ((with_reducible refine gate_dst (N := 3) rfl ?_); refine box_event ?hg (N := 3) ?hd (cs := #[.int .i64 a0_0, .int .i64 a0_1, .int .i64 a0_2, .slice A0_3 l0_3.length c0_3]) (t := 24) ?hr ?_; (case hd => rfl); (case hg => rfl); (case hr => first | (go_simp; done) | (go_simp; rfl)); intro gb44101 hg w6 hbox hb; have n0_ := Aside0.mk (below_step (by repeat (first | (with_reducible first | exact HB.out | apply below_alloc | apply pw_below_drewN | apply below_drew1) | exact HB.out)) hb); have n1_ := Aside0.mk (hbox); have n2_ := Aside0.mk ((by rw [hg]; exact (below_size (by repeat (first | (with_reducible first | exact HB.out | apply below_alloc | apply pw_below_drewN | apply below_drew1) | exact HB.out))) : w.heap.size ≤ gb44101)); have n3_ := Aside0.mk ((by rw [hg]; exact (below_size (by repeat (first | (with_reducible first | exact HB.out | apply below_alloc | apply pw_below_drewN | apply below_drew1) | exact HB.out))) : w.heap.size ≤ gb44101)); clear HB; have HB := n0_; have BK44101 := n1_; have GW44101 := n2_; have GE44101 := n3_; clear n0_ n1_ n2_ n3_; clear hb hbox hg; have hcz7_0 : w6.cell? ⟨gb44101, 0, none⟩ = some (.int .i64 a0_0) := (blk_cell BK44101.out 0).trans rfl; have hcz7_1 : w6.cell? ⟨gb44101, 1, none⟩ = some (.int .i64 a0_1) := (blk_cell BK44101.out 1).trans rfl; have hcz7_2 : w6.cell? ⟨gb44101, 2, none⟩ = some (.int .i64 a0_2) := (blk_cell BK44101.out 2).trans rfl; have hcz7_3 : w6.cell? ⟨gb44101, 3, none⟩ = some (.slice A0_3 l0_3.length c0_3) := (blk_cell BK44101.out 3).trans rfl; have hfz7_0 := blk_frozen BK44101.out 0; have hfz7_1 := blk_frozen BK44101.out 1; have hfz7_2 := blk_frozen BK44101.out 2; have hfz7_3 := blk_frozen BK44101.out 3) | ((with_reducible refine gate_callee (f := 37) rfl ?_); refine goesL_ (some 20) rfl rfl Try.func37 (by kernel_rfl) rfl #[.agg #[.int .i64 a0_0, .int .i64 a0_1, .int .i64 a0_2, .slice A0_3 l0_3.length c0_3], .int .i64 1048576] rfl (by (try simp only [List.map_toArray, List.map_cons, List.map_nil]); first | done | rfl | (simp only [List.length_drop, List.length_take]; rfl)) ?_; (with_reducible refine (laws_szBoard.calls a0_0 a0_1 a0_2 _ _ l0_3 1048576 t44102 _ ?side1 ?side2 A4.out).mono ?_); (case side1 => repeat (first | exact (Kd.C_below HR0_3.out HB.out) | (with_reducible refine Kd.C_alloc ?_ _) | (with_reducible refine Kd.C_drewN ?_ _) | (with_reducible refine Kd.C_drew ?_))); (case side2 => exact HC0_3.out); rintro e w8 ⟨rfl, hb⟩; refine ⟨_, rfl, ?_⟩; have n0_ := Aside0.mk (blk_below (g := gb44101) (o := .cells #[.int .i64 a0_0, .int .i64 a0_1, .int .i64 a0_2, .slice A0_3 l0_3.length c0_3] 24 (0, 0)) (by (with_reducible repeat (first | refine blk_drewN ?_ _ | refine blk_drew ?_ | refine blk_alloc ?_ _)); exact BK44101.out) hb); have n1_ := Aside0.mk (below_step (by repeat (first | (with_reducible first | exact HB.out | apply below_alloc | apply pw_below_drewN | apply below_drew1 | refine below_set ?_ GE44101.out) | exact HB.out)) hb); clear BK44101; clear HB; have BK44101 := n0_; have HB := n1_; clear n0_ n1_; (try clear hb); (try clear hb2); (try clear hk); (try clear hi)))
    go_ret
    exact ⟨by first | rfl | (simp [errW_none, errW_some] <;> rfl) | (simp [*, errW_none, errW_some] <;> rfl), by repeat (first | (with_reducible first | exact HB.out | apply below_alloc | apply pw_below_drewN | apply below_drew1 | refine below_set ?_ GE44101.out) | exact HB.out)⟩
  · rw [if_neg c5] at H
    have c5b0 : decide (t44102 < 0) = false := decide_eq_false c5
    clear c5
    replace H := Option.bind_eq_some_iff.mp H
    obtain ⟨⟨t44103, t44104, t44105, t44106⟩, A90, H⟩ := H
    replace H : ((spec_LikeliestAt.f k t44103 t44104 t44105 t44106 a1 a2).bind fun bt44109 => ((laws_toBoard.f k a0_0 a0_1 a0_2 l0_3).bind fun bt44113 => ((impl_LikeliestAt.f k bt44113.1 bt44113.2.1 bt44113.2.2.1 bt44113.2.2.2 a1 a2).bind fun bt44120 => ((laws_eqIntS.f k bt44120.1 bt44109.1).bind fun t44124 => (if t44124 = true then (laws_FnExactLikeliestAt.j0 k a1 a2 bt44109.1 bt44109.2 bt44120.1 bt44120.2 (bt44120.2 != bt44109.2) a0_0 a0_1 a0_2 l0_3 bt44113.1 bt44113.2.1 bt44113.2.2.1 bt44113.2.2.2) else (laws_FnExactLikeliestAt.j0 k a1 a2 bt44109.1 bt44109.2 bt44120.1 bt44120.2 true a0_0 a0_1 a0_2 l0_3 bt44113.1 bt44113.2.1 bt44113.2.2.1 bt44113.2.2.2)))))) = some r := H
    have A9 := Aside0.mk A90
    clear A90
    replace H := Option.bind_eq_some_iff.mp H
    obtain ⟨⟨t44109, t44112⟩, A100, H⟩ := H
    replace H : ((laws_toBoard.f k a0_0 a0_1 a0_2 l0_3).bind fun bt44113 => ((impl_LikeliestAt.f k bt44113.1 bt44113.2.1 bt44113.2.2.1 bt44113.2.2.2 a1 a2).bind fun bt44120 => ((laws_eqIntS.f k bt44120.1 t44109).bind fun t44124 => (if t44124 = true then (laws_FnExactLikeliestAt.j0 k a1 a2 t44109 t44112 bt44120.1 bt44120.2 (bt44120.2 != t44112) a0_0 a0_1 a0_2 l0_3 bt44113.1 bt44113.2.1 bt44113.2.2.1 bt44113.2.2.2) else (laws_FnExactLikeliestAt.j0 k a1 a2 t44109 t44112 bt44120.1 bt44120.2 true a0_0 a0_1 a0_2 l0_3 bt44113.1 bt44113.2.1 bt44113.2.2.1 bt44113.2.2.2))))) = some r := H
    have A10 := Aside0.mk A100
    clear A100
    replace H := Option.bind_eq_some_iff.mp H
    obtain ⟨⟨t44113, t44114, t44115, t44116⟩, A110, H⟩ := H
    replace H : ((impl_LikeliestAt.f k t44113 t44114 t44115 t44116 a1 a2).bind fun bt44120 => ((laws_eqIntS.f k bt44120.1 t44109).bind fun t44124 => (if t44124 = true then (laws_FnExactLikeliestAt.j0 k a1 a2 t44109 t44112 bt44120.1 bt44120.2 (bt44120.2 != t44112) a0_0 a0_1 a0_2 l0_3 t44113 t44114 t44115 t44116) else (laws_FnExactLikeliestAt.j0 k a1 a2 t44109 t44112 bt44120.1 bt44120.2 true a0_0 a0_1 a0_2 l0_3 t44113 t44114 t44115 t44116)))) = some r := H
    have A11 := Aside0.mk A110
    clear A110
    replace H := Option.bind_eq_some_iff.mp H
    obtain ⟨⟨t44120, t44123⟩, A120, H⟩ := H
    replace H : ((laws_eqIntS.f k t44120 t44109).bind fun t44124 => (if t44124 = true then (laws_FnExactLikeliestAt.j0 k a1 a2 t44109 t44112 t44120 t44123 (t44123 != t44112) a0_0 a0_1 a0_2 l0_3 t44113 t44114 t44115 t44116) else (laws_FnExactLikeliestAt.j0 k a1 a2 t44109 t44112 t44120 t44123 true a0_0 a0_1 a0_2 l0_3 t44113 t44114 t44115 t44116))) = some r := H
    have A12 := Aside0.mk A120
    clear A120
    have HC13 := Aside0.mk H
    clear H
    go_enter Try.func22, Try.ntmps22
    go_upto_region 8 with (first | ((with_reducible refine gate_dst (N := 3) rfl ?_); refine box_event ?hg (N := 3) ?hd (cs := #[.int .i64 a0_0, .int .i64 a0_1, .int .i64 a0_2, .slice A0_3 l0_3.length c0_3]) (t := 24) ?hr ?_; (case hd => rfl); (case hg => rfl); (case hr => first | (go_simp; done) | (go_simp; rfl)); intro gb44101 hg w14 hbox hb; have n0_ := Aside0.mk (below_step (by repeat (first | (with_reducible first | exact HB.out | apply below_alloc | apply pw_below_drewN | apply below_drew1) | exact HB.out)) hb); have n1_ := Aside0.mk (hbox); have n2_ := Aside0.mk ((by rw [hg]; exact (below_size (by repeat (first | (with_reducible first | exact HB.out | apply below_alloc | apply pw_below_drewN | apply below_drew1) | exact HB.out))) : w.heap.size ≤ gb44101)); have n3_ := Aside0.mk ((by rw [hg]; exact (below_size (by repeat (first | (with_reducible first | exact HB.out | apply below_alloc | apply pw_below_drewN | apply below_drew1) | exact HB.out))) : w.heap.size ≤ gb44101)); clear HB; have HB := n0_; have BK44101 := n1_; have GW44101 := n2_; have GE44101 := n3_; clear n0_ n1_ n2_ n3_; clear hb hbox hg; have hcz15_0 : w14.cell? ⟨gb44101, 0, none⟩ = some (.int .i64 a0_0) := (blk_cell BK44101.out 0).trans rfl; have hcz15_1 : w14.cell? ⟨gb44101, 1, none⟩ = some (.int .i64 a0_1) := (blk_cell BK44101.out 1).trans rfl; have hcz15_2 : w14.cell? ⟨gb44101, 2, none⟩ = some (.int .i64 a0_2) := (blk_cell BK44101.out 2).trans rfl; have hcz15_3 : w14.cell? ⟨gb44101, 3, none⟩ = some (.slice A0_3 l0_3.length c0_3) := (blk_cell BK44101.out 3).trans rfl; have hfz15_0 := blk_frozen BK44101.out 0; have hfz15_1 := blk_frozen BK44101.out 1; have hfz15_2 := blk_frozen BK44101.out 2; have hfz15_3 := blk_frozen BK44101.out 3) | ((with_reducible refine gate_callee (f := 37) rfl ?_); refine goesL_ (some 20) rfl rfl Try.func37 (by kernel_rfl) rfl #[.agg #[.int .i64 a0_0, .int .i64 a0_1, .int .i64 a0_2, .slice A0_3 l0_3.length c0_3], .int .i64 1048576] rfl (by (try simp only [List.map_toArray, List.map_cons, List.map_nil]); first | done | rfl | (simp only [List.length_drop, List.length_take]; rfl)) ?_; (with_reducible refine (laws_szBoard.calls a0_0 a0_1 a0_2 _ _ l0_3 1048576 t44102 _ ?side1 ?side2 A4.out).mono ?_); (case side1 => repeat (first | exact (Kd.C_below HR0_3.out HB.out) | (with_reducible refine Kd.C_alloc ?_ _) | (with_reducible refine Kd.C_drewN ?_ _) | (with_reducible refine Kd.C_drew ?_))); (case side2 => exact HC0_3.out); rintro e w16 ⟨rfl, hb⟩; refine ⟨_, rfl, ?_⟩; have n0_ := Aside0.mk (blk_below (g := gb44101) (o := .cells #[.int .i64 a0_0, .int .i64 a0_1, .int .i64 a0_2, .slice A0_3 l0_3.length c0_3] 24 (0, 0)) (by (with_reducible repeat (first | refine blk_drewN ?_ _ | refine blk_drew ?_ | refine blk_alloc ?_ _)); exact BK44101.out) hb); have n1_ := Aside0.mk (below_step (by repeat (first | (with_reducible first | exact HB.out | apply below_alloc | apply pw_below_drewN | apply below_drew1 | refine below_set ?_ GE44101.out) | exact HB.out)) hb); clear BK44101; clear HB; have BK44101 := n0_; have HB := n1_; clear n0_ n1_; (try clear hb); (try clear hb2); (try clear hk); (try clear hi); have hcz17_0 : w16.cell? ⟨gb44101, 0, none⟩ = some (.int .i64 a0_0) := (blk_cell BK44101.out 0).trans rfl; have hcz17_1 : w16.cell? ⟨gb44101, 1, none⟩ = some (.int .i64 a0_1) := (blk_cell BK44101.out 1).trans rfl; have hcz17_2 : w16.cell? ⟨gb44101, 2, none⟩ = some (.int .i64 a0_2) := (blk_cell BK44101.out 2).trans rfl; have hcz17_3 : w16.cell? ⟨gb44101, 3, none⟩ = some (.slice A0_3 l0_3.length c0_3) := (blk_cell BK44101.out 3).trans rfl; have hfz17_0 := blk_frozen BK44101.out 0; have hfz17_1 := blk_frozen BK44101.out 1; have hfz17_2 := blk_frozen BK44101.out 2; have hfz17_3 := blk_frozen BK44101.out 3) | ((with_reducible refine gate_callee (f := 39) rfl ?_); refine goesL_ (some 25) rfl rfl Try.func39 (by kernel_rfl) rfl #[.agg #[.int .i64 a0_0, .int .i64 a0_1, .int .i64 a0_2, .slice A0_3 l0_3.length c0_3]] rfl (by (try simp only [List.map_toArray, List.map_cons, List.map_nil]); first | done | rfl | (simp only [List.length_drop, List.length_take]; rfl)) ?_; (with_reducible refine (laws_toBoard.calls k a0_0 a0_1 a0_2 _ _ l0_3 t44103 t44104 t44105 t44106 _ ?side1 ?side2 A9.out).mono ?_); (case side1 => repeat (first | exact (Kd.C_below HR0_3.out HB.out) | (with_reducible refine Kd.C_alloc ?_ _) | (with_reducible refine Kd.C_drewN ?_ _) | (with_reducible refine Kd.C_drew ?_))); (case side2 => exact HC0_3.out); rintro e w18 ⟨v44107, rfl, ho0, hb⟩; refine ⟨_, rfl, ?_⟩; have n0_ := Aside0.mk (Kd.R_lower ho0 (below_size (by repeat (first | (with_reducible first | exact HB.out | apply below_alloc | apply pw_below_drewN | apply below_drew1 | refine below_set ?_ GE44101.out) | exact HB.out)))); have n1_ := Aside0.mk (blk_below (g := gb44101) (o := .cells #[.int .i64 a0_0, .int .i64 a0_1, .int .i64 a0_2, .slice A0_3 l0_3.length c0_3] 24 (0, 0)) (by (with_reducible repeat (first | refine blk_drewN ?_ _ | refine blk_drew ?_ | refine blk_alloc ?_ _)); exact BK44101.out) hb); have n2_ := Aside0.mk (below_step (by repeat (first | (with_reducible first | exact HB.out | apply below_alloc | apply pw_below_drewN | apply below_drew1 | refine below_set ?_ GE44101.out) | exact HB.out)) hb); clear BK44101; clear HB; have HO44108 := n0_; have BK44101 := n1_; have HB := n2_; clear n0_ n1_ n2_; (try clear hb); (try clear hb2); (try clear hk); (try clear hi); (try clear ho0); obtain ⟨Ao19, co19, eo19⟩ := Kd.R_slice HO44108.out; subst eo19) | ((with_reducible refine gate_callee (f := 93) rfl ?_); refine goesL_ (some 28) rfl rfl Try.func93 (by kernel_rfl) rfl #[.agg #[.int .i64 t44103, .int .i64 t44104, .int .i64 t44105, .slice Ao19 t44106.length co19], .int .i64 a1, .int .i64 a2] rfl (by (try simp only [List.map_toArray, List.map_cons, List.map_nil]); first | done | rfl | (simp only [List.length_drop, List.length_take]; rfl)) ?_; (with_reducible refine (spec_LikeliestAt.calls k t44103 t44104 t44105 _ _ t44106 a1 a2 t44109 t44112 _ ?side1 ?side2 A10.out).mono ?_); (case side1 => repeat (first | exact (Kd.R_reads' HO44108.out).2.2 | (with_reducible refine Kd.C_alloc ?_ _) | (with_reducible refine Kd.C_drewN ?_ _) | (with_reducible refine Kd.C_drew ?_))); (case side2 => exact (Kd.R_reads' HO44108.out).2.1); rintro e w20 ⟨v44110, rfl, ho0, hb⟩; refine ⟨_, rfl, ?_⟩; have n0_ := Aside0.mk (Kd.R_below (by (with_reducible repeat (first | apply Kd.R_alloc | apply Kd.R_drewN | apply Kd.R_drew)); exact HO44108.out) hb); have n1_ := Aside0.mk (Kd.R_lower ho0 (below_size (by repeat (first | (with_reducible first | exact HB.out | apply below_alloc | apply pw_below_drewN | apply below_drew1 | refine below_set ?_ GE44101.out) | exact HB.out)))); have n2_ := Aside0.mk (blk_below (g := gb44101) (o := .cells #[.int .i64 a0_0, .int .i64 a0_1, .int .i64 a0_2, .slice A0_3 l0_3.length c0_3] 24 (0, 0)) (by (with_reducible repeat (first | refine blk_drewN ?_ _ | refine blk_drew ?_ | refine blk_alloc ?_ _)); exact BK44101.out) hb); have n3_ := Aside0.mk (below_step (by repeat (first | (with_reducible first | exact HB.out | apply below_alloc | apply pw_below_drewN | apply below_drew1 | refine below_set ?_ GE44101.out) | exact HB.out)) hb); clear HO44108; clear BK44101; clear HB; have HO44108 := n0_; have HO44111 := n1_; have BK44101 := n2_; have HB := n3_; clear n0_ n1_ n2_ n3_; (try clear hb); (try clear hb2); (try clear hk); (try clear hi); (try clear ho0); have hcz21_0 : w20.cell? ⟨gb44101, 0, none⟩ = some (.int .i64 a0_0) := (blk_cell BK44101.out 0).trans rfl; have hcz21_1 : w20.cell? ⟨gb44101, 1, none⟩ = some (.int .i64 a0_1) := (blk_cell BK44101.out 1).trans rfl; have hcz21_2 : w20.cell? ⟨gb44101, 2, none⟩ = some (.int .i64 a0_2) := (blk_cell BK44101.out 2).trans rfl; have hcz21_3 : w20.cell? ⟨gb44101, 3, none⟩ = some (.slice A0_3 l0_3.length c0_3) := (blk_cell BK44101.out 3).trans rfl; have hfz21_0 := blk_frozen BK44101.out 0; have hfz21_1 := blk_frozen BK44101.out 1; have hfz21_2 := blk_frozen BK44101.out 2; have hfz21_3 := blk_frozen BK44101.out 3) | ((with_reducible refine gate_callee (f := 39) rfl ?_); refine goesL_ (some 32) rfl rfl Try.func39 (by kernel_rfl) rfl #[.agg #[.int .i64 a0_0, .int .i64 a0_1, .int .i64 a0_2, .slice A0_3 l0_3.length c0_3]] rfl (by (try simp only [List.map_toArray, List.map_cons, List.map_nil]); first | done | rfl | (simp only [List.length_drop, List.length_take]; rfl)) ?_; (with_reducible refine (laws_toBoard.calls k a0_0 a0_1 a0_2 _ _ l0_3 t44113 t44114 t44115 t44116 _ ?side1 ?side2 A11.out).mono ?_); (case side1 => repeat (first | exact (Kd.C_below HR0_3.out HB.out) | (with_reducible refine Kd.C_alloc ?_ _) | (with_reducible refine Kd.C_drewN ?_ _) | (with_reducible refine Kd.C_drew ?_))); (case side2 => exact HC0_3.out); rintro e w22 ⟨v44117, rfl, ho0, hb⟩; refine ⟨_, rfl, ?_⟩; have n0_ := Aside0.mk (Kd.R_elder' (by (with_reducible repeat (first | apply Kd.R_alloc | apply Kd.R_drewN | apply Kd.R_drew)); exact HO44108.out) (Kd.R_base ho0) hb); have n1_ := Aside0.mk (Kd.R_below (by (with_reducible repeat (first | apply Kd.R_alloc | apply Kd.R_drewN | apply Kd.R_drew)); exact HO44111.out) hb); have n2_ := Aside0.mk (Kd.R_lower (Kd.R_new' ho0 (Kd.R_lt (by (with_reducible repeat (first | apply Kd.R_alloc | apply Kd.R_drewN | apply Kd.R_drew)); exact HO44108.out))) (below_size (by repeat (first | (with_reducible first | exact HB.out | apply below_alloc | apply pw_below_drewN | apply below_drew1 | refine below_set ?_ GE44101.out) | exact HB.out)))); have n3_ := Aside0.mk (blk_below (g := gb44101) (o := .cells #[.int .i64 a0_0, .int .i64 a0_1, .int .i64 a0_2, .slice A0_3 l0_3.length c0_3] 24 (0, 0)) (by (with_reducible repeat (first | refine blk_drewN ?_ _ | refine blk_drew ?_ | refine blk_alloc ?_ _)); exact BK44101.out) hb); have n4_ := Aside0.mk (below_step (by repeat (first | (with_reducible first | exact HB.out | apply below_alloc | apply pw_below_drewN | apply below_drew1 | refine below_set ?_ GE44101.out) | exact HB.out)) hb); clear HO44108; clear HO44111; clear BK44101; clear HB; have HO44108 := n0_; have HO44111 := n1_; have HO44118 := n2_; have BK44101 := n3_; have HB := n4_; clear n0_ n1_ n2_ n3_ n4_; (try clear hb); (try clear hb2); (try clear hk); (try clear hi); (try clear ho0)) | ((with_reducible refine gate_dst (N := 10) rfl ?_); refine box_event ?hg (N := 10) ?hd (cs := #[.int .i64 0, .int .i64 0, .int .i64 0, .slice none 0 0]) (t := 32) ?hr ?_; (case hd => rfl); (case hg => rfl); (case hr => first | (go_simp; done) | (go_simp; rfl)); intro gb44119 hg w23 hbox hb; have n0_ := Aside0.mk (Kd.R_below (by (with_reducible repeat (first | apply Kd.R_alloc | apply Kd.R_drewN | apply Kd.R_drew)); exact HO44108.out) hb); have n1_ := Aside0.mk (Kd.R_below (by (with_reducible repeat (first | apply Kd.R_alloc | apply Kd.R_drewN | apply Kd.R_drew)); exact HO44111.out) hb); have n2_ := Aside0.mk (Kd.R_below (by (with_reducible repeat (first | apply Kd.R_alloc | apply Kd.R_drewN | apply Kd.R_drew)); exact HO44118.out) hb); have n3_ := Aside0.mk (blk_below (g := gb44101) (o := .cells #[.int .i64 a0_0, .int .i64 a0_1, .int .i64 a0_2, .slice A0_3 l0_3.length c0_3] 24 (0, 0)) (by (with_reducible repeat (first | refine blk_drewN ?_ _ | refine blk_drew ?_ | refine blk_alloc ?_ _)); exact BK44101.out) hb); have n4_ := Aside0.mk (below_step (by repeat (first | (with_reducible first | exact HB.out | apply below_alloc | apply pw_below_drewN | apply below_drew1 | refine below_set ?_ GE44101.out) | exact HB.out)) hb); have n5_ := Aside0.mk (hbox); have n6_ := Aside0.mk ((by rw [hg]; exact (below_size (by repeat (first | (with_reducible first | exact HB.out | apply below_alloc | apply pw_below_drewN | apply below_drew1 | refine below_set ?_ GE44101.out) | exact HB.out))) : w.heap.size ≤ gb44119)); have n7_ := Aside0.mk ((by rw [hg]; exact (below_size (by repeat (first | (with_reducible first | exact HB.out | apply below_alloc | apply pw_below_drewN | apply below_drew1 | refine below_set ?_ GE44101.out) | exact HB.out))) : w.heap.size ≤ gb44119)); have n8_ := Aside0.mk ((by rw [hg]; exact Nat.ne_of_lt (blk_lt (g := gb44101) (o := .cells #[.int .i64 a0_0, .int .i64 a0_1, .int .i64 a0_2, .slice A0_3 l0_3.length c0_3] 24 (0, 0)) (by (with_reducible repeat (first | refine blk_drewN ?_ _ | refine blk_drew ?_ | refine blk_alloc ?_ _)); exact BK44101.out)) : gb44101 ≠ gb44119)); have n9_ := Aside0.mk ((by rw [hg]; exact Nat.ne_of_gt (blk_lt (g := gb44101) (o := .cells #[.int .i64 a0_0, .int .i64 a0_1, .int .i64 a0_2, .slice A0_3 l0_3.length c0_3] 24 (0, 0)) (by (with_reducible repeat (first | refine blk_drewN ?_ _ | refine blk_drew ?_ | refine blk_alloc ?_ _)); exact BK44101.out)) : gb44119 ≠ gb44101)); clear HO44108; clear HO44111; clear HO44118; clear BK44101; clear HB; have HO44108 := n0_; have HO44111 := n1_; have HO44118 := n2_; have BK44101 := n3_; have HB := n4_; have BK44119 := n5_; have GW44119 := n6_; have GE44119 := n7_; have NB44101_44119 := n8_; have NB44119_44101 := n9_; clear n0_ n1_ n2_ n3_ n4_ n5_ n6_ n7_ n8_ n9_; clear hb hbox hg; have hnb24 := NB44119_44101.out; have hnc24 := NB44101_44119.out; have hcz25_0 : w23.cell? ⟨gb44119, 0, none⟩ = some (.int .i64 0) := (blk_cell BK44119.out 0).trans rfl; have hcz25_1 : w23.cell? ⟨gb44119, 1, none⟩ = some (.int .i64 0) := (blk_cell BK44119.out 1).trans rfl; have hcz25_2 : w23.cell? ⟨gb44119, 2, none⟩ = some (.int .i64 0) := (blk_cell BK44119.out 2).trans rfl; have hcz25_3 : w23.cell? ⟨gb44119, 3, none⟩ = some (.slice none 0 0) := (blk_cell BK44119.out 3).trans rfl; have hfz25_0 := blk_frozen BK44119.out 0; have hfz25_1 := blk_frozen BK44119.out 1; have hfz25_2 := blk_frozen BK44119.out 2; have hfz25_3 := blk_frozen BK44119.out 3; obtain ⟨Ao26, co26, eo26⟩ := Kd.R_slice HO44118.out; subst eo26) | ((with_reducible refine gate_callee (f := 94) rfl ?_); refine goesL_ (some 37) rfl rfl Try.func94 (by kernel_rfl) rfl #[.agg #[.int .i64 t44113, .int .i64 t44114, .int .i64 t44115, .slice Ao26 t44116.length co26], .int .i64 a1, .int .i64 a2] rfl (by (try simp only [List.map_toArray, List.map_cons, List.map_nil]); first | done | rfl | (simp only [List.length_drop, List.length_take]; rfl)) ?_; (with_reducible refine (impl_LikeliestAt.calls k t44113 t44114 t44115 _ _ t44116 a1 a2 t44120 t44123 _ ?side1 ?side2 A12.out).mono ?_); (case side1 => refine (Kd.R_reads' (e := 27) (base := w.heap.size) (ok := fun k_ => (True ∧ some k_ ≠ (.slice Ao19 t44106.length co19 : Value).ownBlock)) (n := t44116.length) (c := co26) ?_).2.2; exact (by (with_reducible repeat (first | apply Kd.R_alloc | apply Kd.R_drewN | apply Kd.R_drew)); exact (Kd.R_mono (Kd.R_far (p := ⟨gb44119, 3, none⟩) (Kd.R_far (p := ⟨gb44119, 2, none⟩) (Kd.R_far (p := ⟨gb44119, 1, none⟩) (Kd.R_far (p := ⟨gb44119, 0, none⟩) (Kd.R_types HO44118.out BK44119.out (by decide)) (fun _ hk => hk.2) (.int .i64 t44113)) (fun _ hk => hk.2) (.int .i64 t44114)) (fun _ hk => hk.2) (.int .i64 t44115)) (fun _ hk => hk.2) (.slice Ao26 t44116.length co26)) (fun _ h_ => h_.1)))); (case side2 => exact (Kd.R_reads' HO44118.out).2.1); rintro e w27 ⟨v44121, rfl, ho0, hb⟩; refine ⟨_, rfl, ?_⟩; have n0_ := Aside0.mk (Kd.R_below (by (with_reducible repeat (first | apply Kd.R_alloc | apply Kd.R_drewN | apply Kd.R_drew)); exact (Kd.R_mono (Kd.R_far (p := ⟨gb44119, 3, none⟩) (Kd.R_far (p := ⟨gb44119, 2, none⟩) (Kd.R_far (p := ⟨gb44119, 1, none⟩) (Kd.R_far (p := ⟨gb44119, 0, none⟩) (Kd.R_types HO44108.out BK44119.out (by decide)) (fun _ hk => hk.2) (.int .i64 t44113)) (fun _ hk => hk.2) (.int .i64 t44114)) (fun _ hk => hk.2) (.int .i64 t44115)) (fun _ hk => hk.2) (.slice Ao26 t44116.length co26)) (fun _ h_ => h_.1))) hb); have n1_ := Aside0.mk (Kd.R_elder' (by (with_reducible repeat (first | apply Kd.R_alloc | apply Kd.R_drewN | apply Kd.R_drew)); exact (Kd.R_mono (Kd.R_far (p := ⟨gb44119, 3, none⟩) (Kd.R_far (p := ⟨gb44119, 2, none⟩) (Kd.R_far (p := ⟨gb44119, 1, none⟩) (Kd.R_far (p := ⟨gb44119, 0, none⟩) (Kd.R_types HO44111.out BK44119.out (by decide)) (fun _ hk => hk.2) (.int .i64 t44113)) (fun _ hk => hk.2) (.int .i64 t44114)) (fun _ hk => hk.2) (.int .i64 t44115)) (fun _ hk => hk.2) (.slice Ao26 t44116.length co26)) (fun _ h_ => h_.1))) (Kd.R_base ho0) hb); have n2_ := Aside0.mk (Kd.R_below (by (with_reducible repeat (first | apply Kd.R_alloc | apply Kd.R_drewN | apply Kd.R_drew)); exact (Kd.R_mono (Kd.R_far (p := ⟨gb44119, 3, none⟩) (Kd.R_far (p := ⟨gb44119, 2, none⟩) (Kd.R_far (p := ⟨gb44119, 1, none⟩) (Kd.R_far (p := ⟨gb44119, 0, none⟩) (Kd.R_types HO44118.out BK44119.out (by decide)) (fun _ hk => hk.2) (.int .i64 t44113)) (fun _ hk => hk.2) (.int .i64 t44114)) (fun _ hk => hk.2) (.int .i64 t44115)) (fun _ hk => hk.2) (.slice Ao26 t44116.length co26)) (fun _ h_ => h_.1))) hb); have n3_ := Aside0.mk (Kd.R_lower (Kd.R_new' ho0 (Kd.R_lt (by (with_reducible repeat (first | apply Kd.R_alloc | apply Kd.R_drewN | apply Kd.R_drew)); exact (Kd.R_mono (Kd.R_far (p := ⟨gb44119, 3, none⟩) (Kd.R_far (p := ⟨gb44119, 2, none⟩) (Kd.R_far (p := ⟨gb44119, 1, none⟩) (Kd.R_far (p := ⟨gb44119, 0, none⟩) (Kd.R_types HO44111.out BK44119.out (by decide)) (fun _ hk => hk.2) (.int .i64 t44113)) (fun _ hk => hk.2) (.int .i64 t44114)) (fun _ hk => hk.2) (.int .i64 t44115)) (fun _ hk => hk.2) (.slice Ao26 t44116.length co26)) (fun _ h_ => h_.1))))) (below_size (by repeat (first | (with_reducible first | exact HB.out | apply below_alloc | apply pw_below_drewN | apply below_drew1 | refine below_set ?_ GE44101.out | refine below_set ?_ GE44119.out) | exact HB.out)))); have n4_ := Aside0.mk (blk_below (g := gb44101) (o := .cells #[.int .i64 a0_0, .int .i64 a0_1, .int .i64 a0_2, .slice A0_3 l0_3.length c0_3] 24 (0, 0)) (by (with_reducible repeat (first | refine blk_drewN ?_ _ | refine blk_drew ?_ | refine blk_alloc ?_ _)); refine blk_far ?_ NB44101_44119.out _; (with_reducible repeat (first | refine blk_drewN ?_ _ | refine blk_drew ?_ | refine blk_alloc ?_ _)); refine blk_far ?_ NB44101_44119.out _; (with_reducible repeat (first | refine blk_drewN ?_ _ | refine blk_drew ?_ | refine blk_alloc ?_ _)); refine blk_far ?_ NB44101_44119.out _; (with_reducible repeat (first | refine blk_drewN ?_ _ | refine blk_drew ?_ | refine blk_alloc ?_ _)); refine blk_far ?_ NB44101_44119.out _; (with_reducible repeat (first | refine blk_drewN ?_ _ | refine blk_drew ?_ | refine blk_alloc ?_ _)); exact BK44101.out) hb); have n5_ := Aside0.mk (blk_below (g := gb44119) (o := .cells #[.int .i64 t44113, .int .i64 t44114, .int .i64 t44115, .slice Ao26 t44116.length co26] 32 (0, 0)) (by (with_reducible repeat (first | refine blk_drewN ?_ _ | refine blk_drew ?_ | refine blk_alloc ?_ _)); refine blk_put (cs := #[.int .i64 t44113, .int .i64 t44114, .int .i64 t44115, .slice none 0 0]) ?_ 3 _ rfl; (with_reducible repeat (first | refine blk_drewN ?_ _ | refine blk_drew ?_ | refine blk_alloc ?_ _)); refine blk_put (cs := #[.int .i64 t44113, .int .i64 t44114, .int .i64 0, .slice none 0 0]) ?_ 2 _ rfl; (with_reducible repeat (first | refine blk_drewN ?_ _ | refine blk_drew ?_ | refine blk_alloc ?_ _)); refine blk_put (cs := #[.int .i64 t44113, .int .i64 0, .int .i64 0, .slice none 0 0]) ?_ 1 _ rfl; (with_reducible repeat (first | refine blk_drewN ?_ _ | refine blk_drew ?_ | refine blk_alloc ?_ _)); refine blk_put (cs := #[.int .i64 0, .int .i64 0, .int .i64 0, .slice none 0 0]) ?_ 0 _ rfl; (with_reducible repeat (first | refine blk_drewN ?_ _ | refine blk_drew ?_ | refine blk_alloc ?_ _)); exact BK44119.out) hb); have n6_ := Aside0.mk (below_step (by repeat (first | (with_reducible first | exact HB.out | apply below_alloc | apply pw_below_drewN | apply below_drew1 | refine below_set ?_ GE44101.out | refine below_set ?_ GE44119.out) | exact HB.out)) hb); clear HO44108; clear HO44111; clear HO44118; clear BK44101; clear BK44119; clear HB; have HO44108 := n0_; have HO44111 := n1_; have HO44118 := n2_; have HO44122 := n3_; have BK44101 := n4_; have BK44119 := n5_; have HB := n6_; clear n0_ n1_ n2_ n3_ n4_ n5_ n6_; (try clear hb); (try clear hb2); (try clear hk); (try clear hi); (try clear ho0)))
    (try simp only [Act.put, List.setIfInBounds_toArray, List.set_cons_zero, List.set_cons_succ])
    go_cut [48] (fun v48 wc => ∃ (kq : Nat) (x48_12 : Bool), v48 = .bool x48_12 ∧ Aside0 (laws_FnExactLikeliestAt.j0 kq a1 a2 t44109 t44112 t44120 t44123 x48_12 a0_0 a0_1 a0_2 l0_3 t44113 t44114 t44115 t44116 = some r) ∧ Aside0 (kq ≤ k) ∧ Aside0 (Kd.R (Kd.int .i64) 3 wc w.heap.size (fun k_ => some k_ ≠ (v44121 : Value).ownBlock) v44110 t44109) ∧ Aside0 (Kd.R (Kd.int .i64) 3 wc w.heap.size (fun k_ => some k_ ≠ (v44110 : Value).ownBlock) v44121 t44120) ∧ Aside0 (Kd.R k27 27 wc w.heap.size (fun _ => True) (.slice Ao26 t44116.length co26) t44116) ∧ Aside0 (wc.heap[gb44101]? = some (.cells #[.int .i64 a0_0, .int .i64 a0_1, .int .i64 a0_2, (.slice A0_3 l0_3.length c0_3)] 24 (0, 0))) ∧ Aside0 (wc.heap[gb44119]? = some (.cells #[.int .i64 t44113, .int .i64 t44114, .int .i64 t44115, (.slice Ao26 t44116.length co26)] 32 (0, 0))) ∧ Aside0 (Below w.heap.size w wc))
    case first =>
      have H := HC13.out
      clear HC13
      replace H := Option.bind_eq_some_iff.mp H
      obtain ⟨t44124, A280, H⟩ := H
      replace H : (if t44124 = true then (laws_FnExactLikeliestAt.j0 k a1 a2 t44109 t44112 t44120 t44123 (t44123 != t44112) a0_0 a0_1 a0_2 l0_3 t44113 t44114 t44115 t44116) else (laws_FnExactLikeliestAt.j0 k a1 a2 t44109 t44112 t44120 t44123 true a0_0 a0_1 a0_2 l0_3 t44113 t44114 t44115 t44116)) = some r := H
      have A28 := Aside0.mk A280
      clear A280
      by_cases c29 : t44124 = true
      · subst c29
        have H1 : (laws_FnExactLikeliestAt.j0 k a1 a2 t44109 t44112 t44120 t44123 (t44123 != t44112) a0_0 a0_1 a0_2 l0_3 t44113 t44114 t44115 t44116) = some r := by rw [if_pos rfl] at H; exact H
        clear H
        have H := H1
        clear H1
        have H' := Aside0.mk H
        clear H
        obtain ⟨Ao30, co30, eo30⟩ := Kd.R_slice HO44122.out
        subst eo30
        obtain ⟨Ao31, co31, eo31⟩ := Kd.R_slice HO44111.out
        subst eo31
        go_wp2_with (first | ((with_reducible refine gate_callee (f := 67) rfl ?_); refine goesL_ (some 42) rfl rfl Try.func67 (by kernel_rfl) rfl #[.slice Ao30 t44120.length co30, .slice Ao31 t44109.length co31] rfl (by (try simp only [List.map_toArray, List.map_cons, List.map_nil]); first | done | rfl | (simp only [List.length_drop, List.length_take]; rfl)) ?_; (with_reducible refine (laws_eqIntS.calls k _ _ t44120 _ _ t44109 true _ ?side1 ?side2 ?side3 ?side4 A28.out).mono ?_); (case side1 => repeat (first | exact (Kd.R_reads' HO44122.out).2.2 | (with_reducible refine Kd.C_alloc ?_ _) | (with_reducible refine Kd.C_drewN ?_ _) | (with_reducible refine Kd.C_drew ?_))); (case side2 => exact (Kd.R_reads' HO44122.out).2.1); (case side3 => repeat (first | exact (Kd.R_reads' HO44111.out).2.2 | (with_reducible refine Kd.C_alloc ?_ _) | (with_reducible refine Kd.C_drewN ?_ _) | (with_reducible refine Kd.C_drew ?_))); (case side4 => exact (Kd.R_reads' HO44111.out).2.1); rintro e w' ⟨rfl, ⟨nd, rfl⟩⟩; refine ⟨_, rfl, ?_⟩))
        go_meet
        case rel => exact ⟨_, ((t44123 != t44112)), (by first | rfl | (simp; done) | (simp [*]; done)), H', ⟨by first | omega | exact Nat.le_refl _⟩, ⟨by (with_reducible repeat (first | apply Kd.R_alloc | apply Kd.R_drewN | apply Kd.R_drew)); exact Kd.R_mono HO44111.out (fun _ hk => hk.2)⟩, ⟨by (with_reducible repeat (first | apply Kd.R_alloc | apply Kd.R_drewN | apply Kd.R_drew)); exact Kd.R_mono HO44122.out (fun _ hk => hk.2)⟩, ⟨by (with_reducible repeat (first | apply Kd.R_alloc | apply Kd.R_drewN | apply Kd.R_drew)); exact Kd.R_mono HO44118.out (fun _ hk => trivial)⟩, ⟨by (with_reducible repeat (first | refine blk_drewN ?_ _ | refine blk_drew ?_ | refine blk_alloc ?_ _)); exact BK44101.out⟩, ⟨by (with_reducible repeat (first | refine blk_drewN ?_ _ | refine blk_drew ?_ | refine blk_alloc ?_ _)); exact BK44119.out⟩, ⟨by repeat (first | (with_reducible first | exact HB.out | apply below_alloc | apply pw_below_drewN | apply below_drew1 | refine below_set ?_ GE44101.out | refine below_set ?_ GE44119.out) | exact HB.out)⟩⟩
      · replace c29 := Bool.eq_false_iff.mpr c29
        subst c29
        have H1 : (laws_FnExactLikeliestAt.j0 k a1 a2 t44109 t44112 t44120 t44123 true a0_0 a0_1 a0_2 l0_3 t44113 t44114 t44115 t44116) = some r := by rw [if_neg (show ¬ (false = true) by decide)] at H; exact H
        clear H
        have H := H1
        clear H1
        have H' := Aside0.mk H
        clear H
        obtain ⟨Ao32, co32, eo32⟩ := Kd.R_slice HO44122.out
        subst eo32
        obtain ⟨Ao33, co33, eo33⟩ := Kd.R_slice HO44111.out
        subst eo33
        go_wp2_with (first | ((with_reducible refine gate_callee (f := 67) rfl ?_); refine goesL_ (some 42) rfl rfl Try.func67 (by kernel_rfl) rfl #[.slice Ao32 t44120.length co32, .slice Ao33 t44109.length co33] rfl (by (try simp only [List.map_toArray, List.map_cons, List.map_nil]); first | done | rfl | (simp only [List.length_drop, List.length_take]; rfl)) ?_; (with_reducible refine (laws_eqIntS.calls k _ _ t44120 _ _ t44109 false _ ?side1 ?side2 ?side3 ?side4 A28.out).mono ?_); (case side1 => repeat (first | exact (Kd.R_reads' HO44122.out).2.2 | (with_reducible refine Kd.C_alloc ?_ _) | (with_reducible refine Kd.C_drewN ?_ _) | (with_reducible refine Kd.C_drew ?_))); (case side2 => exact (Kd.R_reads' HO44122.out).2.1); (case side3 => repeat (first | exact (Kd.R_reads' HO44111.out).2.2 | (with_reducible refine Kd.C_alloc ?_ _) | (with_reducible refine Kd.C_drewN ?_ _) | (with_reducible refine Kd.C_drew ?_))); (case side4 => exact (Kd.R_reads' HO44111.out).2.1); rintro e w' ⟨rfl, ⟨nd, rfl⟩⟩; refine ⟨_, rfl, ?_⟩))
        go_meet
        case rel => exact ⟨_, (true), (by first | rfl | (simp; done) | (simp [*]; done)), H', ⟨by first | omega | exact Nat.le_refl _⟩, ⟨by (with_reducible repeat (first | apply Kd.R_alloc | apply Kd.R_drewN | apply Kd.R_drew)); exact Kd.R_mono HO44111.out (fun _ hk => hk.2)⟩, ⟨by (with_reducible repeat (first | apply Kd.R_alloc | apply Kd.R_drewN | apply Kd.R_drew)); exact Kd.R_mono HO44122.out (fun _ hk => hk.2)⟩, ⟨by (with_reducible repeat (first | apply Kd.R_alloc | apply Kd.R_drewN | apply Kd.R_drew)); exact Kd.R_mono HO44118.out (fun _ hk => trivial)⟩, ⟨by (with_reducible repeat (first | refine blk_drewN ?_ _ | refine blk_drew ?_ | refine blk_alloc ?_ _)); exact BK44101.out⟩, ⟨by (with_reducible repeat (first | refine blk_drewN ?_ _ | refine blk_drew ?_ | refine blk_alloc ?_ _)); exact BK44119.out⟩, ⟨by repeat (first | (with_reducible first | exact HB.out | apply below_alloc | apply pw_below_drewN | apply below_drew1 | refine below_set ?_ GE44101.out | refine below_set ?_ GE44119.out) | exact HB.out)⟩⟩
    case rest =>
      clear HC13
      try clear c2
      try clear p2
      try clear c3
      try clear c5
      try clear c5b0
      try clear c6
      try clear c9
      try clear c22
      try clear c24
      try clear c29
      try clear hcz15_0
      try clear hcz15_1
      try clear hcz15_2
      try clear hcz15_3
      try clear hcz17_0
      try clear hcz17_1
      try clear hcz17_2
      try clear hcz17_3
      try clear hcz21_0
      try clear hcz21_1
      try clear hcz21_2
      try clear hcz21_3
      try clear hcz25_0
      try clear hcz25_1
      try clear hcz25_2
      try clear hcz25_3
      try clear hcz7_0
      try clear hcz7_1
      try clear hcz7_2
      try clear hcz7_3
      try clear hfz15_0
      try clear hfz15_1
      try clear hfz15_2
      try clear hfz15_3
      try clear hfz17_0
      try clear hfz17_1
      try clear hfz17_2
      try clear hfz17_3
      try clear hfz21_0
      try clear hfz21_1
      try clear hfz21_2
      try clear hfz21_3
      try clear hfz25_0
      try clear hfz25_1
      try clear hfz25_2
      try clear hfz25_3
      try clear hfz7_0
      try clear hfz7_1
      try clear hfz7_2
      try clear hfz7_3
      obtain ⟨kq, x48_12, rfl, HA, HJ12, HO_8, HO_11, HO_44120003, BK44101, BK44119, HB⟩ := hcut
      cases kq with
      | zero => exact absurd HA.out (by simp [laws_FnExactLikeliestAt.j0])
      | succ kj12 =>
        have H := HA.out
        clear HA
        simp only [laws_FnExactLikeliestAt.j0] at H
        by_cases c34 : x48_12 = true
        · subst c34
          have H1 : (some false) = some r := by rw [if_pos rfl] at H; exact H
          clear H
          have H := H1
          clear H1
          obtain rfl := Option.some.inj H
          go_wp2
          go_ret
          exact ⟨by first | rfl | (simp [errW_none, errW_some] <;> rfl) | (simp [*, errW_none, errW_some] <;> rfl), by repeat (first | (with_reducible first | exact HB.out | apply below_alloc | apply pw_below_drewN | apply below_drew1 | refine below_set ?_ GE44101.out | refine below_set ?_ GE44119.out) | exact HB.out)⟩
        · replace c34 := Bool.eq_false_iff.mpr c34
          subst c34
          have H1 : ((laws_toBoard.f kj12 a0_0 a0_1 a0_2 l0_3).bind fun bt44125 => ((laws_eqBoard.f kj12 t44113 t44114 t44115 t44116 bt44125.1 bt44125.2.1 bt44125.2.2.1 bt44125.2.2.2).bind fun t44131 => (if t44131 = true then ((laws_markBoard.f kj12 t44113 t44114 t44115 t44116 1).bind fun bt44132 => (if bt44132.1 < 0 then (laws_FnExactLikeliestAt.j1 kj12 a1 a2 t44109 t44112 t44120 true a0_0 a0_1 a0_2 l0_3) else ((laws_eqIntS.f kj12 t44120 t44109).bind fun t44134 => (if t44134 = true then (laws_FnExactLikeliestAt.j1 kj12 a1 a2 t44109 t44112 t44120 (t44123 != t44112) a0_0 a0_1 a0_2 l0_3) else (laws_FnExactLikeliestAt.j1 kj12 a1 a2 t44109 t44112 t44120 true a0_0 a0_1 a0_2 l0_3))))) else (some false)))) = some r := by rw [if_neg (show ¬ (false = true) by decide)] at H; exact H
          clear H
          have H := H1
          clear H1
          replace H := Option.bind_eq_some_iff.mp H
          obtain ⟨⟨t44125, t44126, t44127, t44128⟩, A350, H⟩ := H
          replace H : ((laws_eqBoard.f kj12 t44113 t44114 t44115 t44116 t44125 t44126 t44127 t44128).bind fun t44131 => (if t44131 = true then ((laws_markBoard.f kj12 t44113 t44114 t44115 t44116 1).bind fun bt44132 => (if bt44132.1 < 0 then (laws_FnExactLikeliestAt.j1 kj12 a1 a2 t44109 t44112 t44120 true a0_0 a0_1 a0_2 l0_3) else ((laws_eqIntS.f kj12 t44120 t44109).bind fun t44134 => (if t44134 = true then (laws_FnExactLikeliestAt.j1 kj12 a1 a2 t44109 t44112 t44120 (t44123 != t44112) a0_0 a0_1 a0_2 l0_3) else (laws_FnExactLikeliestAt.j1 kj12 a1 a2 t44109 t44112 t44120 true a0_0 a0_1 a0_2 l0_3))))) else (some false))) = some r := H
          have A35 := Aside0.mk A350
          clear A350
          replace H := Option.bind_eq_some_iff.mp H
          obtain ⟨t44131, A360, H⟩ := H
          replace H : (if t44131 = true then ((laws_markBoard.f kj12 t44113 t44114 t44115 t44116 1).bind fun bt44132 => (if bt44132.1 < 0 then (laws_FnExactLikeliestAt.j1 kj12 a1 a2 t44109 t44112 t44120 true a0_0 a0_1 a0_2 l0_3) else ((laws_eqIntS.f kj12 t44120 t44109).bind fun t44134 => (if t44134 = true then (laws_FnExactLikeliestAt.j1 kj12 a1 a2 t44109 t44112 t44120 (t44123 != t44112) a0_0 a0_1 a0_2 l0_3) else (laws_FnExactLikeliestAt.j1 kj12 a1 a2 t44109 t44112 t44120 true a0_0 a0_1 a0_2 l0_3))))) else (some false)) = some r := H
          have A36 := Aside0.mk A360
          clear A360
          by_cases c37 : t44131 = true
          · subst c37
            have H1 : ((laws_markBoard.f kj12 t44113 t44114 t44115 t44116 1).bind fun bt44132 => (if bt44132.1 < 0 then (laws_FnExactLikeliestAt.j1 kj12 a1 a2 t44109 t44112 t44120 true a0_0 a0_1 a0_2 l0_3) else ((laws_eqIntS.f kj12 t44120 t44109).bind fun t44134 => (if t44134 = true then (laws_FnExactLikeliestAt.j1 kj12 a1 a2 t44109 t44112 t44120 (t44123 != t44112) a0_0 a0_1 a0_2 l0_3) else (laws_FnExactLikeliestAt.j1 kj12 a1 a2 t44109 t44112 t44120 true a0_0 a0_1 a0_2 l0_3))))) = some r := by rw [if_pos rfl] at H; exact H
            clear H
            have H := H1
            clear H1
            replace H := Option.bind_eq_some_iff.mp H
            obtain ⟨⟨t44132, t44133⟩, A380, H⟩ := H
            replace H : (if t44132 < 0 then (laws_FnExactLikeliestAt.j1 kj12 a1 a2 t44109 t44112 t44120 true a0_0 a0_1 a0_2 l0_3) else ((laws_eqIntS.f kj12 t44120 t44109).bind fun t44134 => (if t44134 = true then (laws_FnExactLikeliestAt.j1 kj12 a1 a2 t44109 t44112 t44120 (t44123 != t44112) a0_0 a0_1 a0_2 l0_3) else (laws_FnExactLikeliestAt.j1 kj12 a1 a2 t44109 t44112 t44120 true a0_0 a0_1 a0_2 l0_3)))) = some r := H
            have A38 := Aside0.mk A380
            clear A380
            have HC39 := Aside0.mk H
            clear H
            try go_wp2
            have n0_ := Aside0.mk (Kd.R_drew HO_8.out)
            have n1_ := Aside0.mk (Kd.R_drew HO_11.out)
            have n2_ := Aside0.mk (Kd.R_drew HO_44120003.out)
            have n3_ := Aside0.mk (blk_drew BK44101.out)
            have n4_ := Aside0.mk (blk_drew BK44119.out)
            have n5_ := Aside0.mk (below_drew1 HB.out)
            clear HO_8
            clear HO_11
            clear HO_44120003
            clear BK44101
            clear BK44119
            clear HB
            have HO_8 := n0_
            have HO_11 := n1_
            have HO_44120003 := n2_
            have BK44101 := n3_
            have BK44119 := n4_
            have HB := n5_
            clear n0_ n1_ n2_ n3_ n4_ n5_
            refine start_ (n := 5) (S := fun w' => w'.cell? ⟨gb44119, 0, none⟩ = some (.int .i64 t44113) ∧ w'.cell? ⟨gb44119, 1, none⟩ = some (.int .i64 t44114) ∧ w'.cell? ⟨gb44119, 2, none⟩ = some (.int .i64 t44115) ∧ w'.cell? ⟨gb44119, 3, none⟩ = some (.slice Ao26 t44116.length co26) ∧ w'.cell? ⟨gb44101, 0, none⟩ = some (.int .i64 a0_0) ∧ w'.cell? ⟨gb44101, 1, none⟩ = some (.int .i64 a0_1) ∧ w'.cell? ⟨gb44101, 2, none⟩ = some (.int .i64 a0_2) ∧ w'.cell? ⟨gb44101, 3, none⟩ = some (.slice A0_3 l0_3.length c0_3)) (ds := []) #[false, false, false, false, false] (by kernel_rfl) rfl rfl ⟨(blk_cell BK44119.out 0).trans rfl, (blk_cell BK44119.out 1).trans rfl, (blk_cell BK44119.out 2).trans rfl, (blk_cell BK44119.out 3).trans rfl, (blk_cell BK44101.out 0).trans rfl, (blk_cell BK44101.out 1).trans rfl, (blk_cell BK44101.out 2).trans rfl, (blk_cell BK44101.out 3).trans rfl⟩ (fun hHeld => ?_)
            generalize wc.drew = w40 at HO_8 HO_11 HO_44120003 BK44101 BK44119 HB hHeld ⊢
            refine take_ (i := 0) (N := some 49) (v := ?_) (a' := ?_) #[true, false, false, false, false] rfl rfl (by kernel_rfl) (fun _ _ _ h => h) (Or.inl ⟨by rfl, ?_⟩) hHeld ?_ ?_
            rotate_left
            · rintro w' ⟨s0, s1, s2, s3, s4, s5, s6, s7⟩
              go_simp
              with_reducible rfl
            rotate_left
            · simp only [Act.put, List.setIfInBounds_toArray, List.set_cons_zero, List.set_cons_succ, i64_w, i32_w]
              rfl
            refine take_ (i := 1) (N := some 50) (v := ?_) (a' := ?_) #[true, true, false, false, false] rfl rfl (by kernel_rfl) (fun _ _ _ h => h) (Or.inl ⟨by rfl, ?_⟩) hHeld ?_ ?_
            rotate_left
            · rintro w' ⟨s0, s1, s2, s3, s4, s5, s6, s7⟩
              go_simp
              with_reducible rfl
            rotate_left
            · simp only [Act.put, List.setIfInBounds_toArray, List.set_cons_zero, List.set_cons_succ, i64_w, i32_w]
              rfl
            refine one_ (i := 2) (N := some 51) #[true, true, true, false, false] rfl rfl (by kernel_rfl) (by decide) (fun K hK => ?_)
            refine goes_ Try.func39 (by kernel_rfl) rfl #[.agg #[.int .i64 a0_0, .int .i64 a0_1, .int .i64 a0_2, .slice A0_3 l0_3.length c0_3]] (by rfl) rfl rfl (by (try simp only [List.map_toArray, List.map_cons, List.map_nil]); first | done | rfl | (simp only [List.length_drop, List.length_take]; rfl)) ?_
            with_reducible refine (laws_toBoard.calls kj12 a0_0 a0_1 a0_2 _ _ l0_3 t44125 t44126 t44127 t44128 _ ?side1 ?side2 A35.out).mono ?_
            (case side1 => repeat (first | exact (Kd.C_below HR0_3.out HB.out) | (with_reducible refine Kd.C_alloc ?_ _) | (with_reducible refine Kd.C_drewN ?_ _) | (with_reducible refine Kd.C_drew ?_)))
            (case side2 => exact HC0_3.out)
            rintro e w41 ⟨v44129, rfl, ho0, hb⟩
            refine ⟨_, rfl, ?_⟩
            have n0_ := Aside0.mk (Kd.R_below (by (with_reducible repeat (first | apply Kd.R_alloc | apply Kd.R_drewN | apply Kd.R_drew)); exact HO_8.out) hb)
            have n1_ := Aside0.mk (Kd.R_below (by (with_reducible repeat (first | apply Kd.R_alloc | apply Kd.R_drewN | apply Kd.R_drew)); exact HO_11.out) hb)
            have n2_ := Aside0.mk (Kd.R_elder' (by (with_reducible repeat (first | apply Kd.R_alloc | apply Kd.R_drewN | apply Kd.R_drew)); exact HO_44120003.out) (Kd.R_base ho0) hb)
            have n3_ := Aside0.mk (Kd.R_lower (Kd.R_new' ho0 (Kd.R_lt (by (with_reducible repeat (first | apply Kd.R_alloc | apply Kd.R_drewN | apply Kd.R_drew)); exact HO_44120003.out))) (below_size (by repeat (first | (with_reducible first | exact HB.out | apply below_alloc | apply pw_below_drewN | apply below_drew1 | refine below_set ?_ GE44101.out | refine below_set ?_ GE44119.out) | exact HB.out))))
            have n4_ := Aside0.mk (blk_below (g := gb44101) (o := .cells #[.int .i64 a0_0, .int .i64 a0_1, .int .i64 a0_2, .slice A0_3 l0_3.length c0_3] 24 (0, 0)) (by (with_reducible repeat (first | refine blk_drewN ?_ _ | refine blk_drew ?_ | refine blk_alloc ?_ _)); exact BK44101.out) hb)
            have n5_ := Aside0.mk (blk_below (g := gb44119) (o := .cells #[.int .i64 t44113, .int .i64 t44114, .int .i64 t44115, .slice Ao26 t44116.length co26] 32 (0, 0)) (by (with_reducible repeat (first | refine blk_drewN ?_ _ | refine blk_drew ?_ | refine blk_alloc ?_ _)); exact BK44119.out) hb)
            have n6_ := Aside0.mk (below_step (by repeat (first | (with_reducible first | exact HB.out | apply below_alloc | apply pw_below_drewN | apply below_drew1 | refine below_set ?_ GE44101.out | refine below_set ?_ GE44119.out) | exact HB.out)) hb)
            clear HO_8
            clear HO_11
            clear HO_44120003
            clear BK44101
            clear BK44119
            clear HB
            have HO_8 := n0_
            have HO_11 := n1_
            have HO_44120003 := n2_
            have HO44130 := n3_
            have BK44101 := n4_
            have BK44119 := n5_
            have HB := n6_
            clear n0_ n1_ n2_ n3_ n4_ n5_ n6_
            (try clear hb)
            (try clear hb2)
            (try clear hk)
            (try clear hi)
            (try clear ho0)
            obtain ⟨Ao42, co42, eo42⟩ := Kd.R_slice HO44130.out
            (first | subst eo42 | (injection eo42 with f1_ f2_ f3_; have f4_ := f1_.symm; have f5_ := f3_.symm; clear f1_ f2_ f3_; subst f4_; subst f5_))
            refine hK.out _ _ ⟨(blk_cell BK44119.out 0).trans rfl, (blk_cell BK44119.out 1).trans rfl, (blk_cell BK44119.out 2).trans rfl, (blk_cell BK44119.out 3).trans rfl, (blk_cell BK44101.out 0).trans rfl, (blk_cell BK44101.out 1).trans rfl, (blk_cell BK44101.out 2).trans rfl, (blk_cell BK44101.out 3).trans rfl⟩ (fun hHeld => ?_)
            clear hK K
            refine norm_ (a' := ?_) ?_ ?_
            rotate_left
            · show Act.put _ (some 51) _ = _
              simp only [Act.put, List.setIfInBounds_toArray, List.set_cons_zero, List.set_cons_succ, i64_w, i32_w]
              rfl
            refine one_ (i := 3) (N := some 52) #[true, true, true, true, false] rfl rfl (by kernel_rfl) (by decide) (fun K hK => ?_)
            refine goes_ Try.func42 (by kernel_rfl) rfl #[.agg #[.int .i64 t44113, .int .i64 t44114, .int .i64 t44115, .slice Ao26 t44116.length co26], .agg #[.int .i64 t44125, .int .i64 t44126, .int .i64 t44127, .slice Ao42 t44128.length co42]] (by rfl) rfl rfl (by (try simp only [List.map_toArray, List.map_cons, List.map_nil]); first | done | rfl | (simp only [List.length_drop, List.length_take]; rfl)) ?_
            with_reducible refine (laws_eqBoard.calls kj12 t44113 t44114 t44115 _ _ t44116 t44125 t44126 t44127 _ _ t44128 true _ ?side1 ?side2 ?side3 ?side4 A36.out).mono ?_
            (case side1 => repeat (first | exact (Kd.R_reads' HO_44120003.out).2.2 | (with_reducible refine Kd.C_alloc ?_ _) | (with_reducible refine Kd.C_drewN ?_ _) | (with_reducible refine Kd.C_drew ?_)))
            (case side2 => exact (Kd.R_reads' HO_44120003.out).2.1)
            (case side3 => repeat (first | exact (Kd.R_reads' HO44130.out).2.2 | (with_reducible refine Kd.C_alloc ?_ _) | (with_reducible refine Kd.C_drewN ?_ _) | (with_reducible refine Kd.C_drew ?_)))
            (case side4 => exact (Kd.R_reads' HO44130.out).2.1)
            rintro e w43 ⟨rfl, hb⟩
            refine ⟨_, rfl, ?_⟩
            have n0_ := Aside0.mk (Kd.R_below (by (with_reducible repeat (first | apply Kd.R_alloc | apply Kd.R_drewN | apply Kd.R_drew)); exact HO_8.out) hb)
            have n1_ := Aside0.mk (Kd.R_below (by (with_reducible repeat (first | apply Kd.R_alloc | apply Kd.R_drewN | apply Kd.R_drew)); exact HO_11.out) hb)
            have n2_ := Aside0.mk (Kd.R_below (by (with_reducible repeat (first | apply Kd.R_alloc | apply Kd.R_drewN | apply Kd.R_drew)); exact HO_44120003.out) hb)
            have n3_ := Aside0.mk (Kd.R_below (by (with_reducible repeat (first | apply Kd.R_alloc | apply Kd.R_drewN | apply Kd.R_drew)); exact HO44130.out) hb)
            have n4_ := Aside0.mk (blk_below (g := gb44101) (o := .cells #[.int .i64 a0_0, .int .i64 a0_1, .int .i64 a0_2, .slice A0_3 l0_3.length c0_3] 24 (0, 0)) (by (with_reducible repeat (first | refine blk_drewN ?_ _ | refine blk_drew ?_ | refine blk_alloc ?_ _)); exact BK44101.out) hb)
            have n5_ := Aside0.mk (blk_below (g := gb44119) (o := .cells #[.int .i64 t44113, .int .i64 t44114, .int .i64 t44115, .slice Ao26 t44116.length co26] 32 (0, 0)) (by (with_reducible repeat (first | refine blk_drewN ?_ _ | refine blk_drew ?_ | refine blk_alloc ?_ _)); exact BK44119.out) hb)
            have n6_ := Aside0.mk (below_step (by repeat (first | (with_reducible first | exact HB.out | apply below_alloc | apply pw_below_drewN | apply below_drew1 | refine below_set ?_ GE44101.out | refine below_set ?_ GE44119.out) | exact HB.out)) hb)
            clear HO_8
            clear HO_11
            clear HO_44120003
            clear HO44130
            clear BK44101
            clear BK44119
            clear HB
            have HO_8 := n0_
            have HO_11 := n1_
            have HO_44120003 := n2_
            have HO44130 := n3_
            have BK44101 := n4_
            have BK44119 := n5_
            have HB := n6_
            clear n0_ n1_ n2_ n3_ n4_ n5_ n6_
            (try clear hb)
            (try clear hb2)
            (try clear hk)
            (try clear hi)
            refine hK.out _ _ ⟨(blk_cell BK44119.out 0).trans rfl, (blk_cell BK44119.out 1).trans rfl, (blk_cell BK44119.out 2).trans rfl, (blk_cell BK44119.out 3).trans rfl, (blk_cell BK44101.out 0).trans rfl, (blk_cell BK44101.out 1).trans rfl, (blk_cell BK44101.out 2).trans rfl, (blk_cell BK44101.out 3).trans rfl⟩ (fun hHeld => ?_)
            clear hK K
            refine norm_ (a' := ?_) ?_ ?_
            rotate_left
            · show Act.put _ (some 52) _ = _
              simp only [Act.put, List.setIfInBounds_toArray, List.set_cons_zero, List.set_cons_succ, i64_w, i32_w]
              rfl
            refine pure_ (i := 4) (N := some 53) (v := ?_) (a' := ?_) #[true, true, true, true, true] rfl rfl (by kernel_rfl) (fun _ _ _ h => h) (Or.inl ⟨by rfl, ?_⟩) ?_ ?_
            rotate_left
            · intro w'
              go_simp
              with_reducible rfl
            rotate_left
            · simp only [Act.put, List.setIfInBounds_toArray, List.set_cons_zero, List.set_cons_succ, i64_w, i32_w]
              rfl
            refine done_ (by kernel_rfl) ?_
            have hnb44 := NB44119_44101.out
            have hnc44 := NB44101_44119.out
            have hcz45_0 : w43.cell? ⟨gb44119, 0, none⟩ = some (.int .i64 t44113) := (blk_cell BK44119.out 0).trans rfl
            have hcz45_1 : w43.cell? ⟨gb44119, 1, none⟩ = some (.int .i64 t44114) := (blk_cell BK44119.out 1).trans rfl
            have hcz45_2 : w43.cell? ⟨gb44119, 2, none⟩ = some (.int .i64 t44115) := (blk_cell BK44119.out 2).trans rfl
            have hcz45_3 : w43.cell? ⟨gb44119, 3, none⟩ = some (.slice Ao26 t44116.length co26) := (blk_cell BK44119.out 3).trans rfl
            have hfz45_0 := blk_frozen BK44119.out 0
            have hfz45_1 := blk_frozen BK44119.out 1
            have hfz45_2 := blk_frozen BK44119.out 2
            have hfz45_3 := blk_frozen BK44119.out 3
            go_upto_region 14 with (first | ((with_reducible refine gate_callee (f := 47) rfl ?_); refine goesL_ (some 56) rfl rfl Try.func47 (by kernel_rfl) rfl #[.agg #[.int .i64 t44113, .int .i64 t44114, .int .i64 t44115, .slice Ao26 t44116.length co26], .int .i64 1] rfl (by (try simp only [List.map_toArray, List.map_cons, List.map_nil]); first | done | rfl | (simp only [List.length_drop, List.length_take]; rfl)) ?_; (with_reducible refine (laws_markBoard.calls kj12 t44113 t44114 t44115 (fun k_ => some k_ = (.slice Ao26 t44116.length co26 : Value).ownBlock) (.slice Ao26 t44116.length co26) t44116 1 t44132 t44133 w _ ?side1 ?side2 A38.out).mono ?_); (case side1 => repeat (first | (with_reducible first | exact HB.out | apply below_alloc | apply pw_below_drewN | apply below_drew1 | refine below_set ?_ GE44101.out | refine below_set ?_ GE44119.out) | exact HB.out)); (case side2 => exact Kd.R_tight rfl HO_44120003.out); rintro e w46 ⟨rfl, hy0, hb, hkp⟩; refine ⟨_, rfl, ?_⟩; have n0_ := Aside0.mk (Kd.R_mono (ok' := fun k_ => some k_ ≠ (v44121 : Value).ownBlock) (Kd.R_keptB ((Kd.R_apart' HO_8.out (Kd.R_typed HO_44120003.out) (by decide))) hkp (fun k_ hk_ hs_ => (hk_.2) hs_)) (fun k_ hk_ => hk_.1.1)); have n1_ := Aside0.mk (Kd.R_mono (ok' := fun k_ => some k_ ≠ (v44110 : Value).ownBlock) (Kd.R_keptB ((Kd.R_apart' HO_11.out (Kd.R_typed HO_44120003.out) (by decide))) hkp (fun k_ hk_ hs_ => (hk_.2) hs_)) (fun k_ hk_ => hk_.1.1)); have n2_ := Aside0.mk (Kd.R_reok rfl hy0 (fun k_ e_ => HO_44120003.out.1 k_ e_)); have n3_ := Aside0.mk (blk_kept (by (with_reducible repeat (first | refine blk_drewN ?_ _ | refine blk_drew ?_ | refine blk_alloc ?_ _)); exact BK44101.out) hkp (fun hs_ => (fun e_ => (Kd.R_ne HO_44120003.out BK44101.out (by decide)) e_) hs_)); have n4_ := Aside0.mk (blk_kept (by (with_reducible repeat (first | refine blk_drewN ?_ _ | refine blk_drew ?_ | refine blk_alloc ?_ _)); exact BK44119.out) hkp (fun hs_ => (fun e_ => (Kd.R_ne HO_44120003.out BK44119.out (by decide)) e_) hs_)); have n5_ := Aside0.mk (Kd.R_mono (ok' := fun k_ => some k_ ≠ (.slice Ao26 t44116.length co26 : Value).ownBlock) (Kd.R_keptB (HO44130.out) hkp (fun k_ hk_ hs_ => (hk_.2) hs_)) (fun k_ hk_ => hk_.1.2)); have n6_ := Aside0.mk (hb); clear HO_8; clear HO_11; clear HO_44120003; clear BK44101; clear BK44119; clear HO44130; clear HB; have HO_8 := n0_; have HO_11 := n1_; have HO_44120003 := n2_; have BK44101 := n3_; have BK44119 := n4_; have HO44130 := n5_; have HB := n6_; clear n0_ n1_ n2_ n3_ n4_ n5_ n6_; (try clear hb); (try clear hkp); (try clear hy0)))
            (try simp only [Act.put, List.setIfInBounds_toArray, List.set_cons_zero, List.set_cons_succ])
            go_cut [69] (fun v69 wc => ∃ (kq : Nat) (x69_38 : Bool), v69 = .bool x69_38 ∧ Aside0 (laws_FnExactLikeliestAt.j1 kq a1 a2 t44109 t44112 t44120 x69_38 a0_0 a0_1 a0_2 l0_3 = some r) ∧ Aside0 (kq ≤ kj12) ∧ Aside0 (Kd.R (Kd.int .i64) 3 wc w.heap.size (fun k_ => some k_ ≠ (v44121 : Value).ownBlock) v44110 t44109) ∧ Aside0 (Kd.R (Kd.int .i64) 3 wc w.heap.size (fun k_ => some k_ ≠ (v44110 : Value).ownBlock) v44121 t44120) ∧ Aside0 (Kd.R k27 27 wc w.heap.size (fun _ => True) (.slice Ao26 t44116.length co26) t44133) ∧ Aside0 (wc.heap[gb44101]? = some (.cells #[.int .i64 a0_0, .int .i64 a0_1, .int .i64 a0_2, (.slice A0_3 l0_3.length c0_3)] 24 (0, 0))) ∧ Aside0 (wc.heap[gb44119]? = some (.cells #[.int .i64 t44113, .int .i64 t44114, .int .i64 t44115, (.slice Ao26 t44116.length co26)] 32 (0, 0))) ∧ Aside0 (Below w.heap.size w wc))
            case first =>
              have H := HC39.out
              clear HC39
              by_cases c47 : t44132 < 0
              · rw [if_pos c47] at H
                have c47b0 : decide (t44132 < 0) = true := decide_eq_true c47
                clear c47
                (first | rw [c47b0] | (simp only [i64_w, i32_w]; rw [c47b0]) | skip)
                have H' := Aside0.mk H
                clear H
                go_wp2
                go_meet
                case rel => exact ⟨_, (true), (by first | rfl | (simp; done) | (simp [*]; done)), H', ⟨by have := HJ12.out; first | omega | exact Nat.le_refl _⟩, ⟨by (with_reducible repeat (first | apply Kd.R_alloc | apply Kd.R_drewN | apply Kd.R_drew)); exact HO_8.out⟩, ⟨by (with_reducible repeat (first | apply Kd.R_alloc | apply Kd.R_drewN | apply Kd.R_drew)); exact HO_11.out⟩, ⟨by (with_reducible repeat (first | apply Kd.R_alloc | apply Kd.R_drewN | apply Kd.R_drew)); exact Kd.R_mono HO_44120003.out (fun _ hk => trivial)⟩, ⟨by (with_reducible repeat (first | refine blk_drewN ?_ _ | refine blk_drew ?_ | refine blk_alloc ?_ _)); exact BK44101.out⟩, ⟨by (with_reducible repeat (first | refine blk_drewN ?_ _ | refine blk_drew ?_ | refine blk_alloc ?_ _)); exact BK44119.out⟩, ⟨by repeat (first | (with_reducible first | exact HB.out | apply below_alloc | apply pw_below_drewN | apply below_drew1 | refine below_set ?_ GE44101.out | refine below_set ?_ GE44119.out) | exact HB.out)⟩⟩
              · rw [if_neg c47] at H
                have c47b0 : decide (t44132 < 0) = false := decide_eq_false c47
                clear c47
                (first | rw [c47b0] | (simp only [i64_w, i32_w]; rw [c47b0]) | skip)
                replace H := Option.bind_eq_some_iff.mp H
                obtain ⟨t44134, A480, H⟩ := H
                replace H : (if t44134 = true then (laws_FnExactLikeliestAt.j1 kj12 a1 a2 t44109 t44112 t44120 (t44123 != t44112) a0_0 a0_1 a0_2 l0_3) else (laws_FnExactLikeliestAt.j1 kj12 a1 a2 t44109 t44112 t44120 true a0_0 a0_1 a0_2 l0_3)) = some r := H
                have A48 := Aside0.mk A480
                clear A480
                by_cases c49 : t44134 = true
                · subst c49
                  have H1 : (laws_FnExactLikeliestAt.j1 kj12 a1 a2 t44109 t44112 t44120 (t44123 != t44112) a0_0 a0_1 a0_2 l0_3) = some r := by rw [if_pos rfl] at H; exact H
                  clear H
                  have H := H1
                  clear H1
                  have H' := Aside0.mk H
                  clear H
                  obtain ⟨Ao50, co50, eo50⟩ := Kd.R_slice HO_11.out
                  subst eo50
                  obtain ⟨Ao51, co51, eo51⟩ := Kd.R_slice HO_8.out
                  subst eo51
                  go_wp2_with (first | (go_at_call 67; (with_reducible refine (laws_eqIntS.calls kj12 _ _ t44120 _ _ t44109 true _ ?side1 ?side2 ?side3 ?side4 A48.out).mono ?_); (case side1 => repeat (first | exact (Kd.R_reads' HO_11.out).2.2 | (with_reducible refine Kd.C_alloc ?_ _) | (with_reducible refine Kd.C_drewN ?_ _) | (with_reducible refine Kd.C_drew ?_))); (case side2 => exact (Kd.R_reads' HO_11.out).2.1); (case side3 => repeat (first | exact (Kd.R_reads' HO_8.out).2.2 | (with_reducible refine Kd.C_alloc ?_ _) | (with_reducible refine Kd.C_drewN ?_ _) | (with_reducible refine Kd.C_drew ?_))); (case side4 => exact (Kd.R_reads' HO_8.out).2.1); rintro e w' ⟨rfl, ⟨nd, rfl⟩⟩))
                  go_meet
                  case rel => exact ⟨_, ((t44123 != t44112)), (by first | rfl | (simp; done) | (simp [*]; done)), H', ⟨by have := HJ12.out; first | omega | exact Nat.le_refl _⟩, ⟨by (with_reducible repeat (first | apply Kd.R_alloc | apply Kd.R_drewN | apply Kd.R_drew)); exact HO_8.out⟩, ⟨by (with_reducible repeat (first | apply Kd.R_alloc | apply Kd.R_drewN | apply Kd.R_drew)); exact HO_11.out⟩, ⟨by (with_reducible repeat (first | apply Kd.R_alloc | apply Kd.R_drewN | apply Kd.R_drew)); exact Kd.R_mono HO_44120003.out (fun _ hk => trivial)⟩, ⟨by (with_reducible repeat (first | refine blk_drewN ?_ _ | refine blk_drew ?_ | refine blk_alloc ?_ _)); exact BK44101.out⟩, ⟨by (with_reducible repeat (first | refine blk_drewN ?_ _ | refine blk_drew ?_ | refine blk_alloc ?_ _)); exact BK44119.out⟩, ⟨by repeat (first | (with_reducible first | exact HB.out | apply below_alloc | apply pw_below_drewN | apply below_drew1 | refine below_set ?_ GE44101.out | refine below_set ?_ GE44119.out) | exact HB.out)⟩⟩
                · replace c49 := Bool.eq_false_iff.mpr c49
                  subst c49
                  have H1 : (laws_FnExactLikeliestAt.j1 kj12 a1 a2 t44109 t44112 t44120 true a0_0 a0_1 a0_2 l0_3) = some r := by rw [if_neg (show ¬ (false = true) by decide)] at H; exact H
                  clear H
                  have H := H1
                  clear H1
                  have H' := Aside0.mk H
                  clear H
                  obtain ⟨Ao52, co52, eo52⟩ := Kd.R_slice HO_11.out
                  subst eo52
                  obtain ⟨Ao53, co53, eo53⟩ := Kd.R_slice HO_8.out
                  subst eo53
                  go_wp2_with (first | (go_at_call 67; (with_reducible refine (laws_eqIntS.calls kj12 _ _ t44120 _ _ t44109 false _ ?side1 ?side2 ?side3 ?side4 A48.out).mono ?_); (case side1 => repeat (first | exact (Kd.R_reads' HO_11.out).2.2 | (with_reducible refine Kd.C_alloc ?_ _) | (with_reducible refine Kd.C_drewN ?_ _) | (with_reducible refine Kd.C_drew ?_))); (case side2 => exact (Kd.R_reads' HO_11.out).2.1); (case side3 => repeat (first | exact (Kd.R_reads' HO_8.out).2.2 | (with_reducible refine Kd.C_alloc ?_ _) | (with_reducible refine Kd.C_drewN ?_ _) | (with_reducible refine Kd.C_drew ?_))); (case side4 => exact (Kd.R_reads' HO_8.out).2.1); rintro e w' ⟨rfl, ⟨nd, rfl⟩⟩))
                  go_meet
                  case rel => exact ⟨_, (true), (by first | rfl | (simp; done) | (simp [*]; done)), H', ⟨by have := HJ12.out; first | omega | exact Nat.le_refl _⟩, ⟨by (with_reducible repeat (first | apply Kd.R_alloc | apply Kd.R_drewN | apply Kd.R_drew)); exact HO_8.out⟩, ⟨by (with_reducible repeat (first | apply Kd.R_alloc | apply Kd.R_drewN | apply Kd.R_drew)); exact HO_11.out⟩, ⟨by (with_reducible repeat (first | apply Kd.R_alloc | apply Kd.R_drewN | apply Kd.R_drew)); exact Kd.R_mono HO_44120003.out (fun _ hk => trivial)⟩, ⟨by (with_reducible repeat (first | refine blk_drewN ?_ _ | refine blk_drew ?_ | refine blk_alloc ?_ _)); exact BK44101.out⟩, ⟨by (with_reducible repeat (first | refine blk_drewN ?_ _ | refine blk_drew ?_ | refine blk_alloc ?_ _)); exact BK44119.out⟩, ⟨by repeat (first | (with_reducible first | exact HB.out | apply below_alloc | apply pw_below_drewN | apply below_drew1 | refine below_set ?_ GE44101.out | refine below_set ?_ GE44119.out) | exact HB.out)⟩⟩
            case rest =>
              clear HC39
              try clear c2
              try clear p2
              try clear c3
              try clear c4
              try clear c5
              try clear c5b0
              try clear c6
              try clear c9
              try clear c22
              try clear c24
              try clear c29
              try clear c34
              try clear c37
              try clear c39
              try clear c42
              try clear c44
              try clear c47
              try clear c47b0
              try clear c49
              try clear hcz15_0
              try clear hcz15_1
              try clear hcz15_2
              try clear hcz15_3
              try clear hcz17_0
              try clear hcz17_1
              try clear hcz17_2
              try clear hcz17_3
              try clear hcz21_0
              try clear hcz21_1
              try clear hcz21_2
              try clear hcz21_3
              try clear hcz25_0
              try clear hcz25_1
              try clear hcz25_2
              try clear hcz25_3
              try clear hcz45_0
              try clear hcz45_1
              try clear hcz45_2
              try clear hcz45_3
              try clear hcz7_0
              try clear hcz7_1
              try clear hcz7_2
              try clear hcz7_3
              try clear hfz15_0
              try clear hfz15_1
              try clear hfz15_2
              try clear hfz15_3
              try clear hfz17_0
              try clear hfz17_1
              try clear hfz17_2
              try clear hfz17_3
              try clear hfz21_0
              try clear hfz21_1
              try clear hfz21_2
              try clear hfz21_3
              try clear hfz25_0
              try clear hfz25_1
              try clear hfz25_2
              try clear hfz25_3
              try clear hfz45_0
              try clear hfz45_1
              try clear hfz45_2
              try clear hfz45_3
              try clear hfz7_0
              try clear hfz7_1
              try clear hfz7_2
              try clear hfz7_3
              try clear p2
              obtain ⟨kq, x69_38, rfl, HA, HJ38, HO_8, HO_11, HO_44120003, BK44101, BK44119, HB⟩ := hcut
              have hl44120003_38 := (Kd.R_reads' HO_44120003.out).1
              rw [hl44120003_38] at HO_44120003
              (try simp only [hl44120003_38])
              (try simp only [hl44120003_38] at BK44101)
              (try simp only [hl44120003_38] at BK44119)
              (try simp only [hl44120003_38] at HO_8)
              (try simp only [hl44120003_38] at HO_11)
              cases kq with
              | zero => exact absurd HA.out (by simp [laws_FnExactLikeliestAt.j1])
              | succ kj38 =>
                have H := HA.out
                clear HA
                simp only [laws_FnExactLikeliestAt.j1] at H
                by_cases c54 : x69_38 = true
                · subst c54
                  have H1 : (some false) = some r := by rw [if_pos rfl] at H; exact H
                  clear H
                  have H := H1
                  clear H1
                  obtain rfl := Option.some.inj H
                  go_wp2
                  go_ret
                  exact ⟨by first | rfl | (simp [errW_none, errW_some] <;> rfl) | (simp [*, errW_none, errW_some] <;> rfl), by repeat (first | (with_reducible first | exact HB.out | apply below_alloc | apply pw_below_drewN | apply below_drew1 | refine below_set ?_ GE44101.out | refine below_set ?_ GE44119.out) | exact HB.out)⟩
                · replace c54 := Bool.eq_false_iff.mpr c54
                  subst c54
                  have H1 : ((laws_markIntS.f kj38 t44120 1).bind fun bt44135 => ((laws_heldIntS.f kj38 bt44135.2 1).bind fun t44137 => (if t44137 < 0 then (some false) else (if t44137 = bt44135.1 then ((laws_toBoard.f kj38 a0_0 a0_1 a0_2 l0_3).bind fun bt44138 => ((impl_LikeliestAt.f kj38 bt44138.1 bt44138.2.1 bt44138.2.2.1 bt44138.2.2.2 a1 a2).bind fun bt44144 => ((laws_eqIntS.f kj38 bt44144.1 t44109).bind fun t44148 => (if t44148 = true then (laws_FnExactLikeliestAt.j2 kj38 bt44135.2 bt44135.1 (bt44144.2 != t44112)) else (laws_FnExactLikeliestAt.j2 kj38 bt44135.2 bt44135.1 true))))) else (some false))))) = some r := by rw [if_neg (show ¬ (false = true) by decide)] at H; exact H
                  clear H
                  have H := H1
                  clear H1
                  replace H := Option.bind_eq_some_iff.mp H
                  obtain ⟨⟨t44135, t44136⟩, A550, H⟩ := H
                  replace H : ((laws_heldIntS.f kj38 t44136 1).bind fun t44137 => (if t44137 < 0 then (some false) else (if t44137 = t44135 then ((laws_toBoard.f kj38 a0_0 a0_1 a0_2 l0_3).bind fun bt44138 => ((impl_LikeliestAt.f kj38 bt44138.1 bt44138.2.1 bt44138.2.2.1 bt44138.2.2.2 a1 a2).bind fun bt44144 => ((laws_eqIntS.f kj38 bt44144.1 t44109).bind fun t44148 => (if t44148 = true then (laws_FnExactLikeliestAt.j2 kj38 t44136 t44135 (bt44144.2 != t44112)) else (laws_FnExactLikeliestAt.j2 kj38 t44136 t44135 true))))) else (some false)))) = some r := H
                  have A55 := Aside0.mk A550
                  clear A550
                  replace H := Option.bind_eq_some_iff.mp H
                  obtain ⟨t44137, A560, H⟩ := H
                  replace H : (if t44137 < 0 then (some false) else (if t44137 = t44135 then ((laws_toBoard.f kj38 a0_0 a0_1 a0_2 l0_3).bind fun bt44138 => ((impl_LikeliestAt.f kj38 bt44138.1 bt44138.2.1 bt44138.2.2.1 bt44138.2.2.2 a1 a2).bind fun bt44144 => ((laws_eqIntS.f kj38 bt44144.1 t44109).bind fun t44148 => (if t44148 = true then (laws_FnExactLikeliestAt.j2 kj38 t44136 t44135 (bt44144.2 != t44112)) else (laws_FnExactLikeliestAt.j2 kj38 t44136 t44135 true))))) else (some false))) = some r := H
                  have A56 := Aside0.mk A560
                  clear A560
                  by_cases c57 : t44137 < 0
                  · rw [if_pos c57] at H
                    have c57b0 : decide (t44137 < 0) = true := decide_eq_true c57
                    clear c57
                    obtain rfl := Option.some.inj H
                    obtain ⟨Ao58, co58, eo58⟩ := Kd.R_slice HO_11.out
                    subst eo58
                    go_wp2_with (first | ((with_reducible refine gate_callee (f := 68) rfl ?_); refine goesL_ (some 72) rfl rfl Try.func68 (by kernel_rfl) rfl #[.slice Ao58 t44120.length co58, .int .i64 1] rfl (by (try simp only [List.map_toArray, List.map_cons, List.map_nil]); first | done | rfl | (simp only [List.length_drop, List.length_take]; rfl)) ?_; (with_reducible refine (laws_markIntS.calls kj38 (fun k_ => some k_ = (.slice Ao58 t44120.length co58 : Value).ownBlock) (.slice Ao58 t44120.length co58) t44120 1 t44135 t44136 w _ ?side1 ?side2 A55.out).mono ?_); (case side1 => repeat (first | (with_reducible first | exact HB.out | apply below_alloc | apply pw_below_drewN | apply below_drew1 | refine below_set ?_ GE44101.out | refine below_set ?_ GE44119.out) | exact HB.out)); (case side2 => exact Kd.R_tight rfl HO_11.out); rintro e w59 ⟨rfl, hy0, hb, hkp⟩; refine ⟨_, rfl, ?_⟩; have n0_ := Aside0.mk (Kd.R_mono (ok' := fun k_ => some k_ ≠ (.slice Ao58 t44120.length co58 : Value).ownBlock) (Kd.R_keptB (HO_8.out) hkp (fun k_ hk_ hs_ => (hk_) hs_)) (fun k_ hk_ => hk_.1)); have n1_ := Aside0.mk (Kd.R_reok rfl hy0 (fun k_ e_ => HO_11.out.1 k_ e_)); have n2_ := Aside0.mk (Kd.R_mono (ok' := fun k_ => True) (Kd.R_keptB ((Kd.R_apart' HO_44120003.out (Kd.R_typed HO_11.out) (by decide))) hkp (fun k_ hk_ hs_ => (hk_.2) hs_)) (fun k_ hk_ => trivial)); have n3_ := Aside0.mk (blk_kept (by (with_reducible repeat (first | refine blk_drewN ?_ _ | refine blk_drew ?_ | refine blk_alloc ?_ _)); exact BK44101.out) hkp (fun hs_ => (fun e_ => (Kd.R_ne HO_11.out BK44101.out (by decide)) e_) hs_)); have n4_ := Aside0.mk (blk_kept (by (with_reducible repeat (first | refine blk_drewN ?_ _ | refine blk_drew ?_ | refine blk_alloc ?_ _)); exact BK44119.out) hkp (fun hs_ => (fun e_ => (Kd.R_ne HO_11.out BK44119.out (by decide)) e_) hs_)); have n5_ := Aside0.mk (hb); clear HO_8; clear HO_11; clear HO_44120003; clear BK44101; clear BK44119; clear HB; have HO_8 := n0_; have HO_11 := n1_; have HO_44120003 := n2_; have BK44101 := n3_; have BK44119 := n4_; have HB := n5_; clear n0_ n1_ n2_ n3_ n4_ n5_; (try clear hb); (try clear hkp); (try clear hy0)) | ((with_reducible refine gate_callee (f := 69) rfl ?_); refine goesL_ (some 75) rfl rfl Try.func69 (by kernel_rfl) rfl #[.slice Ao58 t44136.length co58, .int .i64 1] rfl (by (try simp only [List.map_toArray, List.map_cons, List.map_nil]); first | done | (rw [show t44136.length = t44120.length from (Kd.R_reads' HO_11.out).1.symm] <;> rfl) | rfl | (simp only [List.length_drop, List.length_take]; rfl)) ?_; (with_reducible refine (laws_heldIntS.calls kj38 _ _ t44136 1 t44137 _ ?side1 ?side2 A56.out).mono ?_); (case side1 => repeat (first | exact (Kd.R_reads' HO_11.out).2.2 | (with_reducible refine Kd.C_alloc ?_ _) | (with_reducible refine Kd.C_drewN ?_ _) | (with_reducible refine Kd.C_drew ?_))); (case side2 => rw [show t44136.length = t44120.length from (Kd.R_reads' HO_11.out).1.symm]; exact (Kd.R_reads' HO_11.out).2.1); rintro e w' ⟨rfl, ⟨nd, rfl⟩⟩; refine ⟨_, rfl, ?_⟩))
                    go_ret
                    exact ⟨by first | rfl | (simp [errW_none, errW_some] <;> rfl) | (simp [*, errW_none, errW_some] <;> rfl), by repeat (first | (with_reducible first | exact HB.out | apply below_alloc | apply pw_below_drewN | apply below_drew1 | refine below_set ?_ GE44101.out | refine below_set ?_ GE44119.out) | exact HB.out)⟩
                  · rw [if_neg c57] at H
                    have c57b0 : decide (t44137 < 0) = false := decide_eq_false c57
                    clear c57
                    by_cases c60 : t44137 = t44135
                    · rw [if_pos c60] at H
                      have c60b0 : (t44137 == t44135) = true := beq_iff_eq.mpr c60
                      have c60b1 : (t44137 != t44135) = false := bne_eq_false_iff_eq.mpr c60
                      clear c60
                      replace H := Option.bind_eq_some_iff.mp H
                      obtain ⟨⟨t44138, t44139, t44140, t44141⟩, A610, H⟩ := H
                      replace H : ((impl_LikeliestAt.f kj38 t44138 t44139 t44140 t44141 a1 a2).bind fun bt44144 => ((laws_eqIntS.f kj38 bt44144.1 t44109).bind fun t44148 => (if t44148 = true then (laws_FnExactLikeliestAt.j2 kj38 t44136 t44135 (bt44144.2 != t44112)) else (laws_FnExactLikeliestAt.j2 kj38 t44136 t44135 true)))) = some r := H
                      have A61 := Aside0.mk A610
                      clear A610
                      replace H := Option.bind_eq_some_iff.mp H
                      obtain ⟨⟨t44144, t44147⟩, A620, H⟩ := H
                      replace H : ((laws_eqIntS.f kj38 t44144 t44109).bind fun t44148 => (if t44148 = true then (laws_FnExactLikeliestAt.j2 kj38 t44136 t44135 (t44147 != t44112)) else (laws_FnExactLikeliestAt.j2 kj38 t44136 t44135 true))) = some r := H
                      have A62 := Aside0.mk A620
                      clear A620
                      have HC63 := Aside0.mk H
                      clear H
                      obtain ⟨Ao64, co64, eo64⟩ := Kd.R_slice HO_11.out
                      subst eo64
                      go_upto_region 25 with (first | ((with_reducible refine gate_callee (f := 68) rfl ?_); refine goesL_ (some 72) rfl rfl Try.func68 (by kernel_rfl) rfl #[.slice Ao64 t44120.length co64, .int .i64 1] rfl (by (try simp only [List.map_toArray, List.map_cons, List.map_nil]); first | done | rfl | (simp only [List.length_drop, List.length_take]; rfl)) ?_; (with_reducible refine (laws_markIntS.calls kj38 (fun k_ => some k_ = (.slice Ao64 t44120.length co64 : Value).ownBlock) (.slice Ao64 t44120.length co64) t44120 1 t44135 t44136 w _ ?side1 ?side2 A55.out).mono ?_); (case side1 => repeat (first | (with_reducible first | exact HB.out | apply below_alloc | apply pw_below_drewN | apply below_drew1 | refine below_set ?_ GE44101.out | refine below_set ?_ GE44119.out) | exact HB.out)); (case side2 => exact Kd.R_tight rfl HO_11.out); rintro e w65 ⟨rfl, hy0, hb, hkp⟩; refine ⟨_, rfl, ?_⟩; have n0_ := Aside0.mk (Kd.R_mono (ok' := fun k_ => some k_ ≠ (.slice Ao64 t44120.length co64 : Value).ownBlock) (Kd.R_keptB (HO_8.out) hkp (fun k_ hk_ hs_ => (hk_) hs_)) (fun k_ hk_ => hk_.1)); have n1_ := Aside0.mk (Kd.R_reok rfl hy0 (fun k_ e_ => HO_11.out.1 k_ e_)); have n2_ := Aside0.mk (Kd.R_mono (ok' := fun k_ => True) (Kd.R_keptB ((Kd.R_apart' HO_44120003.out (Kd.R_typed HO_11.out) (by decide))) hkp (fun k_ hk_ hs_ => (hk_.2) hs_)) (fun k_ hk_ => trivial)); have n3_ := Aside0.mk (blk_kept (by (with_reducible repeat (first | refine blk_drewN ?_ _ | refine blk_drew ?_ | refine blk_alloc ?_ _)); exact BK44101.out) hkp (fun hs_ => (fun e_ => (Kd.R_ne HO_11.out BK44101.out (by decide)) e_) hs_)); have n4_ := Aside0.mk (blk_kept (by (with_reducible repeat (first | refine blk_drewN ?_ _ | refine blk_drew ?_ | refine blk_alloc ?_ _)); exact BK44119.out) hkp (fun hs_ => (fun e_ => (Kd.R_ne HO_11.out BK44119.out (by decide)) e_) hs_)); have n5_ := Aside0.mk (hb); clear HO_8; clear HO_11; clear HO_44120003; clear BK44101; clear BK44119; clear HB; have HO_8 := n0_; have HO_11 := n1_; have HO_44120003 := n2_; have BK44101 := n3_; have BK44119 := n4_; have HB := n5_; clear n0_ n1_ n2_ n3_ n4_ n5_; (try clear hb); (try clear hkp); (try clear hy0)) | ((with_reducible refine gate_callee (f := 69) rfl ?_); refine goesL_ (some 75) rfl rfl Try.func69 (by kernel_rfl) rfl #[.slice Ao64 t44136.length co64, .int .i64 1] rfl (by (try simp only [List.map_toArray, List.map_cons, List.map_nil]); first | done | (rw [show t44136.length = t44120.length from (Kd.R_reads' HO_11.out).1.symm] <;> rfl) | rfl | (simp only [List.length_drop, List.length_take]; rfl)) ?_; (with_reducible refine (laws_heldIntS.calls kj38 _ _ t44136 1 t44137 _ ?side1 ?side2 A56.out).mono ?_); (case side1 => repeat (first | exact (Kd.R_reads' HO_11.out).2.2 | (with_reducible refine Kd.C_alloc ?_ _) | (with_reducible refine Kd.C_drewN ?_ _) | (with_reducible refine Kd.C_drew ?_))); (case side2 => rw [show t44136.length = t44120.length from (Kd.R_reads' HO_11.out).1.symm]; exact (Kd.R_reads' HO_11.out).2.1); rintro e w' ⟨rfl, ⟨nd, rfl⟩⟩; refine ⟨_, rfl, ?_⟩; have hnb66 := NB44101_44119.out; have hnc66 := NB44119_44101.out; have hcz67_0 : w65.cell? ⟨gb44101, 0, none⟩ = some (.int .i64 a0_0) := (blk_cell BK44101.out 0).trans rfl; have hcz67_1 : w65.cell? ⟨gb44101, 1, none⟩ = some (.int .i64 a0_1) := (blk_cell BK44101.out 1).trans rfl; have hcz67_2 : w65.cell? ⟨gb44101, 2, none⟩ = some (.int .i64 a0_2) := (blk_cell BK44101.out 2).trans rfl; have hcz67_3 : w65.cell? ⟨gb44101, 3, none⟩ = some (.slice A0_3 l0_3.length c0_3) := (blk_cell BK44101.out 3).trans rfl; have hfz67_0 := blk_frozen BK44101.out 0; have hfz67_1 := blk_frozen BK44101.out 1; have hfz67_2 := blk_frozen BK44101.out 2; have hfz67_3 := blk_frozen BK44101.out 3) | ((with_reducible refine gate_callee (f := 39) rfl ?_); refine goesL_ (some 83) rfl rfl Try.func39 (by kernel_rfl) rfl #[.agg #[.int .i64 a0_0, .int .i64 a0_1, .int .i64 a0_2, .slice A0_3 l0_3.length c0_3]] rfl (by (try simp only [List.map_toArray, List.map_cons, List.map_nil]); first | done | rfl | (simp only [List.length_drop, List.length_take]; rfl)) ?_; (with_reducible refine (laws_toBoard.calls kj38 a0_0 a0_1 a0_2 _ _ l0_3 t44138 t44139 t44140 t44141 _ ?side1 ?side2 A61.out).mono ?_); (case side1 => repeat (first | exact (Kd.C_below HR0_3.out (by repeat (first | (with_reducible first | exact HB.out | apply below_alloc | apply pw_below_drewN | apply below_drew1 | refine below_set ?_ GE44101.out | refine below_set ?_ GE44119.out) | exact HB.out))) | (with_reducible refine Kd.C_alloc ?_ _) | (with_reducible refine Kd.C_drewN ?_ _) | (with_reducible refine Kd.C_drew ?_))); (case side2 => exact HC0_3.out); rintro e w68 ⟨v44142, rfl, ho0, hb⟩; refine ⟨_, rfl, ?_⟩; have n0_ := Aside0.mk (Kd.R_below (by (with_reducible repeat (first | apply Kd.R_alloc | apply Kd.R_drewN | apply Kd.R_drew)); exact HO_8.out) hb); have n1_ := Aside0.mk (Kd.R_below (by (with_reducible repeat (first | apply Kd.R_alloc | apply Kd.R_drewN | apply Kd.R_drew)); exact HO_11.out) hb); have n2_ := Aside0.mk (Kd.R_elder' (by (with_reducible repeat (first | apply Kd.R_alloc | apply Kd.R_drewN | apply Kd.R_drew)); exact HO_44120003.out) (Kd.R_base ho0) hb); have n3_ := Aside0.mk (Kd.R_lower (Kd.R_new' ho0 (Kd.R_lt (by (with_reducible repeat (first | apply Kd.R_alloc | apply Kd.R_drewN | apply Kd.R_drew)); exact HO_44120003.out))) (below_size (by repeat (first | (with_reducible first | exact HB.out | apply below_alloc | apply pw_below_drewN | apply below_drew1 | refine below_set ?_ GE44101.out | refine below_set ?_ GE44119.out) | exact HB.out)))); have n4_ := Aside0.mk (blk_below (g := gb44101) (o := .cells #[.int .i64 a0_0, .int .i64 a0_1, .int .i64 a0_2, .slice A0_3 l0_3.length c0_3] 24 (0, 0)) (by (with_reducible repeat (first | refine blk_drewN ?_ _ | refine blk_drew ?_ | refine blk_alloc ?_ _)); exact BK44101.out) hb); have n5_ := Aside0.mk (blk_below (g := gb44119) (o := .cells #[.int .i64 t44113, .int .i64 t44114, .int .i64 t44115, .slice Ao26 t44133.length co26] 32 (0, 0)) (by (with_reducible repeat (first | refine blk_drewN ?_ _ | refine blk_drew ?_ | refine blk_alloc ?_ _)); exact BK44119.out) hb); have n6_ := Aside0.mk (below_step (by repeat (first | (with_reducible first | exact HB.out | apply below_alloc | apply pw_below_drewN | apply below_drew1 | refine below_set ?_ GE44101.out | refine below_set ?_ GE44119.out) | exact HB.out)) hb); clear HO_8; clear HO_11; clear HO_44120003; clear BK44101; clear BK44119; clear HB; have HO_8 := n0_; have HO_11 := n1_; have HO_44120003 := n2_; have HO44143 := n3_; have BK44101 := n4_; have BK44119 := n5_; have HB := n6_; clear n0_ n1_ n2_ n3_ n4_ n5_ n6_; (try clear hb); (try clear hb2); (try clear hk); (try clear hi); (try clear ho0); obtain ⟨Ao69, co69, eo69⟩ := Kd.R_slice HO44143.out; subst eo69) | ((with_reducible refine gate_callee (f := 94) rfl ?_); refine goesL_ (some 86) rfl rfl Try.func94 (by kernel_rfl) rfl #[.agg #[.int .i64 t44138, .int .i64 t44139, .int .i64 t44140, .slice Ao69 t44141.length co69], .int .i64 a1, .int .i64 a2] rfl (by (try simp only [List.map_toArray, List.map_cons, List.map_nil]); first | done | rfl | (simp only [List.length_drop, List.length_take]; rfl)) ?_; (with_reducible refine (impl_LikeliestAt.calls kj38 t44138 t44139 t44140 _ _ t44141 a1 a2 t44144 t44147 _ ?side1 ?side2 A62.out).mono ?_); (case side1 => repeat (first | exact (Kd.R_reads' HO44143.out).2.2 | (with_reducible refine Kd.C_alloc ?_ _) | (with_reducible refine Kd.C_drewN ?_ _) | (with_reducible refine Kd.C_drew ?_))); (case side2 => exact (Kd.R_reads' HO44143.out).2.1); rintro e w70 ⟨v44145, rfl, ho0, hb⟩; refine ⟨_, rfl, ?_⟩; have n0_ := Aside0.mk (Kd.R_elder' (by (with_reducible repeat (first | apply Kd.R_alloc | apply Kd.R_drewN | apply Kd.R_drew)); exact HO_8.out) (Kd.R_base ho0) hb); have n1_ := Aside0.mk (Kd.R_elder' (by (with_reducible repeat (first | apply Kd.R_alloc | apply Kd.R_drewN | apply Kd.R_drew)); exact HO_11.out) (Kd.R_base ho0) hb); have n2_ := Aside0.mk (Kd.R_below (by (with_reducible repeat (first | apply Kd.R_alloc | apply Kd.R_drewN | apply Kd.R_drew)); exact HO_44120003.out) hb); have n3_ := Aside0.mk (Kd.R_below (by (with_reducible repeat (first | apply Kd.R_alloc | apply Kd.R_drewN | apply Kd.R_drew)); exact HO44143.out) hb); have n4_ := Aside0.mk (Kd.R_lower (Kd.R_new' (Kd.R_new' ho0 (Kd.R_lt (by (with_reducible repeat (first | apply Kd.R_alloc | apply Kd.R_drewN | apply Kd.R_drew)); exact HO_8.out))) (Kd.R_lt (by (with_reducible repeat (first | apply Kd.R_alloc | apply Kd.R_drewN | apply Kd.R_drew)); exact HO_11.out))) (below_size (by repeat (first | (with_reducible first | exact HB.out | apply below_alloc | apply pw_below_drewN | apply below_drew1 | refine below_set ?_ GE44101.out | refine below_set ?_ GE44119.out) | exact HB.out)))); have n5_ := Aside0.mk (blk_below (g := gb44101) (o := .cells #[.int .i64 a0_0, .int .i64 a0_1, .int .i64 a0_2, .slice A0_3 l0_3.length c0_3] 24 (0, 0)) (by (with_reducible repeat (first | refine blk_drewN ?_ _ | refine blk_drew ?_ | refine blk_alloc ?_ _)); exact BK44101.out) hb); have n6_ := Aside0.mk (blk_below (g := gb44119) (o := .cells #[.int .i64 t44113, .int .i64 t44114, .int .i64 t44115, .slice Ao26 t44133.length co26] 32 (0, 0)) (by (with_reducible repeat (first | refine blk_drewN ?_ _ | refine blk_drew ?_ | refine blk_alloc ?_ _)); exact BK44119.out) hb); have n7_ := Aside0.mk (below_step (by repeat (first | (with_reducible first | exact HB.out | apply below_alloc | apply pw_below_drewN | apply below_drew1 | refine below_set ?_ GE44101.out | refine below_set ?_ GE44119.out) | exact HB.out)) hb); clear HO_8; clear HO_11; clear HO_44120003; clear HO44143; clear BK44101; clear BK44119; clear HB; have HO_8 := n0_; have HO_11 := n1_; have HO_44120003 := n2_; have HO44143 := n3_; have HO44146 := n4_; have BK44101 := n5_; have BK44119 := n6_; have HB := n7_; clear n0_ n1_ n2_ n3_ n4_ n5_ n6_ n7_; (try clear hb); (try clear hb2); (try clear hk); (try clear hi); (try clear ho0)))
                      (try simp only [Act.put, List.setIfInBounds_toArray, List.set_cons_zero, List.set_cons_succ])
                      go_cut [97] (fun v97 wc => ∃ (kq : Nat) (x97_62 : Bool), v97 = .bool x97_62 ∧ Aside0 (laws_FnExactLikeliestAt.j2 kq t44136 t44135 x97_62 = some r) ∧ Aside0 (kq ≤ kj38) ∧ Aside0 (Kd.R (Kd.int .i64) 3 wc w.heap.size (fun _ => True) (.slice Ao64 t44120.length co64) t44136) ∧ Aside0 (Kd.R k27 27 wc w.heap.size (fun _ => True) (.slice Ao26 t44133.length co26) t44133) ∧ Aside0 (wc.heap[gb44101]? = some (.cells #[.int .i64 a0_0, .int .i64 a0_1, .int .i64 a0_2, (.slice A0_3 l0_3.length c0_3)] 24 (0, 0))) ∧ Aside0 (wc.heap[gb44119]? = some (.cells #[.int .i64 t44113, .int .i64 t44114, .int .i64 t44115, (.slice Ao26 t44133.length co26)] 32 (0, 0))) ∧ Aside0 (Below w.heap.size w wc))
                      case first =>
                        have H := HC63.out
                        clear HC63
                        replace H := Option.bind_eq_some_iff.mp H
                        obtain ⟨t44148, A710, H⟩ := H
                        replace H : (if t44148 = true then (laws_FnExactLikeliestAt.j2 kj38 t44136 t44135 (t44147 != t44112)) else (laws_FnExactLikeliestAt.j2 kj38 t44136 t44135 true)) = some r := H
                        have A71 := Aside0.mk A710
                        clear A710
                        by_cases c72 : t44148 = true
                        · subst c72
                          have H1 : (laws_FnExactLikeliestAt.j2 kj38 t44136 t44135 (t44147 != t44112)) = some r := by rw [if_pos rfl] at H; exact H
                          clear H
                          have H := H1
                          clear H1
                          have H' := Aside0.mk H
                          clear H
                          obtain ⟨Ao73, co73, eo73⟩ := Kd.R_slice HO44146.out
                          subst eo73
                          obtain ⟨Ao74, co74, eo74⟩ := Kd.R_slice HO_8.out
                          subst eo74
                          go_wp2_with (first | ((with_reducible refine gate_callee (f := 67) rfl ?_); refine goesL_ (some 91) rfl rfl Try.func67 (by kernel_rfl) rfl #[.slice Ao73 t44144.length co73, .slice Ao74 t44109.length co74] rfl (by (try simp only [List.map_toArray, List.map_cons, List.map_nil]); first | done | rfl | (simp only [List.length_drop, List.length_take]; rfl)) ?_; (with_reducible refine (laws_eqIntS.calls kj38 _ _ t44144 _ _ t44109 true _ ?side1 ?side2 ?side3 ?side4 A71.out).mono ?_); (case side1 => repeat (first | exact (Kd.R_reads' HO44146.out).2.2 | (with_reducible refine Kd.C_alloc ?_ _) | (with_reducible refine Kd.C_drewN ?_ _) | (with_reducible refine Kd.C_drew ?_))); (case side2 => exact (Kd.R_reads' HO44146.out).2.1); (case side3 => repeat (first | exact (Kd.R_reads' HO_8.out).2.2 | (with_reducible refine Kd.C_alloc ?_ _) | (with_reducible refine Kd.C_drewN ?_ _) | (with_reducible refine Kd.C_drew ?_))); (case side4 => exact (Kd.R_reads' HO_8.out).2.1); rintro e w' ⟨rfl, ⟨nd, rfl⟩⟩; refine ⟨_, rfl, ?_⟩))
                          go_meet
                          case rel => exact ⟨_, ((t44147 != t44112)), (by first | rfl | (simp; done) | (simp [*]; done)), H', ⟨by have := HJ12.out; have := HJ38.out; first | omega | exact Nat.le_refl _⟩, ⟨by (try simp only [hl44120003_38]); (with_reducible repeat (first | apply Kd.R_alloc | apply Kd.R_drewN | apply Kd.R_drew)); exact Kd.R_mono HO_11.out (fun _ hk => trivial)⟩, ⟨by (try simp only [hl44120003_38]); (with_reducible repeat (first | apply Kd.R_alloc | apply Kd.R_drewN | apply Kd.R_drew)); exact Kd.R_mono HO_44120003.out (fun _ hk => trivial)⟩, ⟨by (try simp only [hl44120003_38]); (with_reducible repeat (first | refine blk_drewN ?_ _ | refine blk_drew ?_ | refine blk_alloc ?_ _)); exact BK44101.out⟩, ⟨by (try simp only [hl44120003_38]); (with_reducible repeat (first | refine blk_drewN ?_ _ | refine blk_drew ?_ | refine blk_alloc ?_ _)); exact BK44119.out⟩, ⟨by repeat (first | (with_reducible first | exact HB.out | apply below_alloc | apply pw_below_drewN | apply below_drew1 | refine below_set ?_ GE44101.out | refine below_set ?_ GE44119.out) | exact HB.out)⟩⟩
                        · replace c72 := Bool.eq_false_iff.mpr c72
                          subst c72
                          have H1 : (laws_FnExactLikeliestAt.j2 kj38 t44136 t44135 true) = some r := by rw [if_neg (show ¬ (false = true) by decide)] at H; exact H
                          clear H
                          have H := H1
                          clear H1
                          have H' := Aside0.mk H
                          clear H
                          obtain ⟨Ao75, co75, eo75⟩ := Kd.R_slice HO44146.out
                          subst eo75
                          obtain ⟨Ao76, co76, eo76⟩ := Kd.R_slice HO_8.out
                          subst eo76
                          go_wp2_with (first | ((with_reducible refine gate_callee (f := 67) rfl ?_); refine goesL_ (some 91) rfl rfl Try.func67 (by kernel_rfl) rfl #[.slice Ao75 t44144.length co75, .slice Ao76 t44109.length co76] rfl (by (try simp only [List.map_toArray, List.map_cons, List.map_nil]); first | done | rfl | (simp only [List.length_drop, List.length_take]; rfl)) ?_; (with_reducible refine (laws_eqIntS.calls kj38 _ _ t44144 _ _ t44109 false _ ?side1 ?side2 ?side3 ?side4 A71.out).mono ?_); (case side1 => repeat (first | exact (Kd.R_reads' HO44146.out).2.2 | (with_reducible refine Kd.C_alloc ?_ _) | (with_reducible refine Kd.C_drewN ?_ _) | (with_reducible refine Kd.C_drew ?_))); (case side2 => exact (Kd.R_reads' HO44146.out).2.1); (case side3 => repeat (first | exact (Kd.R_reads' HO_8.out).2.2 | (with_reducible refine Kd.C_alloc ?_ _) | (with_reducible refine Kd.C_drewN ?_ _) | (with_reducible refine Kd.C_drew ?_))); (case side4 => exact (Kd.R_reads' HO_8.out).2.1); rintro e w' ⟨rfl, ⟨nd, rfl⟩⟩; refine ⟨_, rfl, ?_⟩))
                          go_meet
                          case rel => exact ⟨_, (true), (by first | rfl | (simp; done) | (simp [*]; done)), H', ⟨by have := HJ12.out; have := HJ38.out; first | omega | exact Nat.le_refl _⟩, ⟨by (try simp only [hl44120003_38]); (with_reducible repeat (first | apply Kd.R_alloc | apply Kd.R_drewN | apply Kd.R_drew)); exact Kd.R_mono HO_11.out (fun _ hk => trivial)⟩, ⟨by (try simp only [hl44120003_38]); (with_reducible repeat (first | apply Kd.R_alloc | apply Kd.R_drewN | apply Kd.R_drew)); exact Kd.R_mono HO_44120003.out (fun _ hk => trivial)⟩, ⟨by (try simp only [hl44120003_38]); (with_reducible repeat (first | refine blk_drewN ?_ _ | refine blk_drew ?_ | refine blk_alloc ?_ _)); exact BK44101.out⟩, ⟨by (try simp only [hl44120003_38]); (with_reducible repeat (first | refine blk_drewN ?_ _ | refine blk_drew ?_ | refine blk_alloc ?_ _)); exact BK44119.out⟩, ⟨by repeat (first | (with_reducible first | exact HB.out | apply below_alloc | apply pw_below_drewN | apply below_drew1 | refine below_set ?_ GE44101.out | refine below_set ?_ GE44119.out) | exact HB.out)⟩⟩
                      case rest =>
                        clear HC63
                        try clear c2
                        try clear p2
                        try clear c3
                        try clear c4
                        try clear c5
                        try clear c5b0
                        try clear c6
                        try clear c7
                        try clear c9
                        try clear c22
                        try clear c24
                        try clear c29
                        try clear c34
                        try clear c37
                        try clear c39
                        try clear c42
                        try clear c44
                        try clear c47
                        try clear c47b0
                        try clear c49
                        try clear c54
                        try clear c57
                        try clear c57b0
                        try clear c60
                        try clear c60b0
                        try clear c60b1
                        try clear c66
                        try clear c67
                        try clear c68
                        try clear c69
                        try clear c72
                        try clear hcz15_0
                        try clear hcz15_1
                        try clear hcz15_2
                        try clear hcz15_3
                        try clear hcz17_0
                        try clear hcz17_1
                        try clear hcz17_2
                        try clear hcz17_3
                        try clear hcz21_0
                        try clear hcz21_1
                        try clear hcz21_2
                        try clear hcz21_3
                        try clear hcz25_0
                        try clear hcz25_1
                        try clear hcz25_2
                        try clear hcz25_3
                        try clear hcz45_0
                        try clear hcz45_1
                        try clear hcz45_2
                        try clear hcz45_3
                        try clear hcz67_0
                        try clear hcz67_1
                        try clear hcz67_2
                        try clear hcz67_3
                        try clear hcz7_0
                        try clear hcz7_1
                        try clear hcz7_2
                        try clear hcz7_3
                        try clear hfz15_0
                        try clear hfz15_1
                        try clear hfz15_2
                        try clear hfz15_3
                        try clear hfz17_0
                        try clear hfz17_1
                        try clear hfz17_2
                        try clear hfz17_3
                        try clear hfz21_0
                        try clear hfz21_1
                        try clear hfz21_2
                        try clear hfz21_3
                        try clear hfz25_0
                        try clear hfz25_1
                        try clear hfz25_2
                        try clear hfz25_3
                        try clear hfz45_0
                        try clear hfz45_1
                        try clear hfz45_2
                        try clear hfz45_3
                        try clear hfz67_0
                        try clear hfz67_1
                        try clear hfz67_2
                        try clear hfz67_3
                        try clear hfz7_0
                        try clear hfz7_1
                        try clear hfz7_2
                        try clear hfz7_3
                        try clear p2
                        obtain ⟨kq, x97_62, rfl, HA, HJ62, HO_11, HO_44120003, BK44101, BK44119, HB⟩ := hcut
                        have hl11_62 := (Kd.R_reads' HO_11.out).1
                        rw [hl11_62] at HO_11
                        (try simp only [hl11_62])
                        (try simp only [hl11_62] at BK44101)
                        (try simp only [hl11_62] at BK44119)
                        (try simp only [hl11_62] at HO_44120003)
                        cases kq with
                        | zero => exact absurd HA.out (by simp [laws_FnExactLikeliestAt.j2])
                        | succ kj62 =>
                          have H := HA.out
                          clear HA
                          simp only [laws_FnExactLikeliestAt.j2] at H
                          by_cases c77 : x97_62 = true
                          · subst c77
                            have H1 : (some false) = some r := by rw [if_pos rfl] at H; exact H
                            clear H
                            have H := H1
                            clear H1
                            obtain rfl := Option.some.inj H
                            go_wp2
                            go_ret
                            exact ⟨by first | rfl | (simp [errW_none, errW_some] <;> rfl) | (simp [*, errW_none, errW_some] <;> rfl), by repeat (first | (with_reducible first | exact HB.out | apply below_alloc | apply pw_below_drewN | apply below_drew1 | refine below_set ?_ GE44101.out | refine below_set ?_ GE44119.out) | exact HB.out)⟩
                          · replace c77 := Bool.eq_false_iff.mpr c77
                            subst c77
                            have H1 : ((laws_heldIntS.f kj62 t44136 1).bind fun t44149 => (if t44149 < 0 then (some false) else (if t44149 = t44135 then (some true) else (some false)))) = some r := by rw [if_neg (show ¬ (false = true) by decide)] at H; exact H
                            clear H
                            have H := H1
                            clear H1
                            replace H := Option.bind_eq_some_iff.mp H
                            obtain ⟨t44149, A780, H⟩ := H
                            replace H : (if t44149 < 0 then (some false) else (if t44149 = t44135 then (some true) else (some false))) = some r := H
                            have A78 := Aside0.mk A780
                            clear A780
                            by_cases c79 : t44149 < 0
                            · rw [if_pos c79] at H
                              have c79b0 : decide (t44149 < 0) = true := decide_eq_true c79
                              clear c79
                              obtain rfl := Option.some.inj H
                              go_wp2_with (first | ((with_reducible refine gate_callee (f := 69) rfl ?_); refine goesL_ (some 100) rfl rfl Try.func69 (by kernel_rfl) rfl #[.slice Ao64 t44136.length co64, .int .i64 1] rfl (by (try simp only [List.map_toArray, List.map_cons, List.map_nil]); first | done | rfl | (simp only [List.length_drop, List.length_take]; rfl)) ?_; (with_reducible refine (laws_heldIntS.calls kj62 _ _ t44136 1 t44149 _ ?side1 ?side2 A78.out).mono ?_); (case side1 => repeat (first | exact (Kd.R_reads' HO_11.out).2.2 | (with_reducible refine Kd.C_alloc ?_ _) | (with_reducible refine Kd.C_drewN ?_ _) | (with_reducible refine Kd.C_drew ?_))); (case side2 => exact (Kd.R_reads' HO_11.out).2.1); rintro e w' ⟨rfl, ⟨nd, rfl⟩⟩; refine ⟨_, rfl, ?_⟩))
                              go_ret
                              exact ⟨by first | rfl | (simp [errW_none, errW_some] <;> rfl) | (simp [*, errW_none, errW_some] <;> rfl), by repeat (first | (with_reducible first | exact HB.out | apply below_alloc | apply pw_below_drewN | apply below_drew1 | refine below_set ?_ GE44101.out | refine below_set ?_ GE44119.out) | exact HB.out)⟩
                            · rw [if_neg c79] at H
                              have c79b0 : decide (t44149 < 0) = false := decide_eq_false c79
                              clear c79
                              by_cases c80 : t44149 = t44135
                              · rw [if_pos c80] at H
                                have c80b0 : (t44149 == t44135) = true := beq_iff_eq.mpr c80
                                have c80b1 : (t44149 != t44135) = false := bne_eq_false_iff_eq.mpr c80
                                clear c80
                                obtain rfl := Option.some.inj H
                                go_wp2_with (first | ((with_reducible refine gate_callee (f := 69) rfl ?_); refine goesL_ (some 100) rfl rfl Try.func69 (by kernel_rfl) rfl #[.slice Ao64 t44136.length co64, .int .i64 1] rfl (by (try simp only [List.map_toArray, List.map_cons, List.map_nil]); first | done | rfl | (simp only [List.length_drop, List.length_take]; rfl)) ?_; (with_reducible refine (laws_heldIntS.calls kj62 _ _ t44136 1 t44149 _ ?side1 ?side2 A78.out).mono ?_); (case side1 => repeat (first | exact (Kd.R_reads' HO_11.out).2.2 | (with_reducible refine Kd.C_alloc ?_ _) | (with_reducible refine Kd.C_drewN ?_ _) | (with_reducible refine Kd.C_drew ?_))); (case side2 => exact (Kd.R_reads' HO_11.out).2.1); rintro e w' ⟨rfl, ⟨nd, rfl⟩⟩; refine ⟨_, rfl, ?_⟩))
                                go_ret
                                exact ⟨by first | rfl | (simp [errW_none, errW_some] <;> rfl) | (simp [*, errW_none, errW_some] <;> rfl), by repeat (first | (with_reducible first | exact HB.out | apply below_alloc | apply pw_below_drewN | apply below_drew1 | refine below_set ?_ GE44101.out | refine below_set ?_ GE44119.out) | exact HB.out)⟩
                              · rw [if_neg c80] at H
                                have c80b0 : (t44149 == t44135) = false := beq_eq_false_iff_ne.mpr c80
                                have c80b1 : (t44149 != t44135) = true := bne_iff_ne.mpr c80
                                obtain rfl := Option.some.inj H
                                go_wp2_with (first | ((with_reducible refine gate_callee (f := 69) rfl ?_); refine goesL_ (some 100) rfl rfl Try.func69 (by kernel_rfl) rfl #[.slice Ao64 t44136.length co64, .int .i64 1] rfl (by (try simp only [List.map_toArray, List.map_cons, List.map_nil]); first | done | rfl | (simp only [List.length_drop, List.length_take]; rfl)) ?_; (with_reducible refine (laws_heldIntS.calls kj62 _ _ t44136 1 t44149 _ ?side1 ?side2 A78.out).mono ?_); (case side1 => repeat (first | exact (Kd.R_reads' HO_11.out).2.2 | (with_reducible refine Kd.C_alloc ?_ _) | (with_reducible refine Kd.C_drewN ?_ _) | (with_reducible refine Kd.C_drew ?_))); (case side2 => exact (Kd.R_reads' HO_11.out).2.1); rintro e w' ⟨rfl, ⟨nd, rfl⟩⟩; refine ⟨_, rfl, ?_⟩))
                                go_ret
                                exact ⟨by first | rfl | (simp [errW_none, errW_some] <;> rfl) | (simp [*, errW_none, errW_some] <;> rfl), by repeat (first | (with_reducible first | exact HB.out | apply below_alloc | apply pw_below_drewN | apply below_drew1 | refine below_set ?_ GE44101.out | refine below_set ?_ GE44119.out) | exact HB.out)⟩
                    · rw [if_neg c60] at H
                      have c60b0 : (t44137 == t44135) = false := beq_eq_false_iff_ne.mpr c60
                      have c60b1 : (t44137 != t44135) = true := bne_iff_ne.mpr c60
                      obtain rfl := Option.some.inj H
                      obtain ⟨Ao81, co81, eo81⟩ := Kd.R_slice HO_11.out
                      subst eo81
                      go_wp2_with (first | ((with_reducible refine gate_callee (f := 68) rfl ?_); refine goesL_ (some 72) rfl rfl Try.func68 (by kernel_rfl) rfl #[.slice Ao81 t44120.length co81, .int .i64 1] rfl (by (try simp only [List.map_toArray, List.map_cons, List.map_nil]); first | done | rfl | (simp only [List.length_drop, List.length_take]; rfl)) ?_; (with_reducible refine (laws_markIntS.calls kj38 (fun k_ => some k_ = (.slice Ao81 t44120.length co81 : Value).ownBlock) (.slice Ao81 t44120.length co81) t44120 1 t44135 t44136 w _ ?side1 ?side2 A55.out).mono ?_); (case side1 => repeat (first | (with_reducible first | exact HB.out | apply below_alloc | apply pw_below_drewN | apply below_drew1 | refine below_set ?_ GE44101.out | refine below_set ?_ GE44119.out) | exact HB.out)); (case side2 => exact Kd.R_tight rfl HO_11.out); rintro e w82 ⟨rfl, hy0, hb, hkp⟩; refine ⟨_, rfl, ?_⟩; have n0_ := Aside0.mk (Kd.R_mono (ok' := fun k_ => some k_ ≠ (.slice Ao81 t44120.length co81 : Value).ownBlock) (Kd.R_keptB (HO_8.out) hkp (fun k_ hk_ hs_ => (hk_) hs_)) (fun k_ hk_ => hk_.1)); have n1_ := Aside0.mk (Kd.R_reok rfl hy0 (fun k_ e_ => HO_11.out.1 k_ e_)); have n2_ := Aside0.mk (Kd.R_mono (ok' := fun k_ => True) (Kd.R_keptB ((Kd.R_apart' HO_44120003.out (Kd.R_typed HO_11.out) (by decide))) hkp (fun k_ hk_ hs_ => (hk_.2) hs_)) (fun k_ hk_ => trivial)); have n3_ := Aside0.mk (blk_kept (by (with_reducible repeat (first | refine blk_drewN ?_ _ | refine blk_drew ?_ | refine blk_alloc ?_ _)); exact BK44101.out) hkp (fun hs_ => (fun e_ => (Kd.R_ne HO_11.out BK44101.out (by decide)) e_) hs_)); have n4_ := Aside0.mk (blk_kept (by (with_reducible repeat (first | refine blk_drewN ?_ _ | refine blk_drew ?_ | refine blk_alloc ?_ _)); exact BK44119.out) hkp (fun hs_ => (fun e_ => (Kd.R_ne HO_11.out BK44119.out (by decide)) e_) hs_)); have n5_ := Aside0.mk (hb); clear HO_8; clear HO_11; clear HO_44120003; clear BK44101; clear BK44119; clear HB; have HO_8 := n0_; have HO_11 := n1_; have HO_44120003 := n2_; have BK44101 := n3_; have BK44119 := n4_; have HB := n5_; clear n0_ n1_ n2_ n3_ n4_ n5_; (try clear hb); (try clear hkp); (try clear hy0)) | ((with_reducible refine gate_callee (f := 69) rfl ?_); refine goesL_ (some 75) rfl rfl Try.func69 (by kernel_rfl) rfl #[.slice Ao81 t44136.length co81, .int .i64 1] rfl (by (try simp only [List.map_toArray, List.map_cons, List.map_nil]); first | done | (rw [show t44136.length = t44120.length from (Kd.R_reads' HO_11.out).1.symm] <;> rfl) | rfl | (simp only [List.length_drop, List.length_take]; rfl)) ?_; (with_reducible refine (laws_heldIntS.calls kj38 _ _ t44136 1 t44137 _ ?side1 ?side2 A56.out).mono ?_); (case side1 => repeat (first | exact (Kd.R_reads' HO_11.out).2.2 | (with_reducible refine Kd.C_alloc ?_ _) | (with_reducible refine Kd.C_drewN ?_ _) | (with_reducible refine Kd.C_drew ?_))); (case side2 => rw [show t44136.length = t44120.length from (Kd.R_reads' HO_11.out).1.symm]; exact (Kd.R_reads' HO_11.out).2.1); rintro e w' ⟨rfl, ⟨nd, rfl⟩⟩; refine ⟨_, rfl, ?_⟩))
                      go_ret
                      exact ⟨by first | rfl | (simp [errW_none, errW_some] <;> rfl) | (simp [*, errW_none, errW_some] <;> rfl), by repeat (first | (with_reducible first | exact HB.out | apply below_alloc | apply pw_below_drewN | apply below_drew1 | refine below_set ?_ GE44101.out | refine below_set ?_ GE44119.out) | exact HB.out)⟩
          · replace c37 := Bool.eq_false_iff.mpr c37
            subst c37
            have H1 : (some false) = some r := by rw [if_neg (show ¬ (false = true) by decide)] at H; exact H
            clear H
            have H := H1
            clear H1
            obtain rfl := Option.some.inj H
            try go_wp2
            have n0_ := Aside0.mk (Kd.R_drew HO_8.out)
            have n1_ := Aside0.mk (Kd.R_drew HO_11.out)
            have n2_ := Aside0.mk (Kd.R_drew HO_44120003.out)
            have n3_ := Aside0.mk (blk_drew BK44101.out)
            have n4_ := Aside0.mk (blk_drew BK44119.out)
            have n5_ := Aside0.mk (below_drew1 HB.out)
            clear HO_8
            clear HO_11
            clear HO_44120003
            clear BK44101
            clear BK44119
            clear HB
            have HO_8 := n0_
            have HO_11 := n1_
            have HO_44120003 := n2_
            have BK44101 := n3_
            have BK44119 := n4_
            have HB := n5_
            clear n0_ n1_ n2_ n3_ n4_ n5_
            refine start_ (n := 5) (S := fun w' => w'.cell? ⟨gb44119, 0, none⟩ = some (.int .i64 t44113) ∧ w'.cell? ⟨gb44119, 1, none⟩ = some (.int .i64 t44114) ∧ w'.cell? ⟨gb44119, 2, none⟩ = some (.int .i64 t44115) ∧ w'.cell? ⟨gb44119, 3, none⟩ = some (.slice Ao26 t44116.length co26) ∧ w'.cell? ⟨gb44101, 0, none⟩ = some (.int .i64 a0_0) ∧ w'.cell? ⟨gb44101, 1, none⟩ = some (.int .i64 a0_1) ∧ w'.cell? ⟨gb44101, 2, none⟩ = some (.int .i64 a0_2) ∧ w'.cell? ⟨gb44101, 3, none⟩ = some (.slice A0_3 l0_3.length c0_3)) (ds := []) #[false, false, false, false, false] (by kernel_rfl) rfl rfl ⟨(blk_cell BK44119.out 0).trans rfl, (blk_cell BK44119.out 1).trans rfl, (blk_cell BK44119.out 2).trans rfl, (blk_cell BK44119.out 3).trans rfl, (blk_cell BK44101.out 0).trans rfl, (blk_cell BK44101.out 1).trans rfl, (blk_cell BK44101.out 2).trans rfl, (blk_cell BK44101.out 3).trans rfl⟩ (fun hHeld => ?_)
            generalize wc.drew = w83 at HO_8 HO_11 HO_44120003 BK44101 BK44119 HB hHeld ⊢
            refine take_ (i := 0) (N := some 49) (v := ?_) (a' := ?_) #[true, false, false, false, false] rfl rfl (by kernel_rfl) (fun _ _ _ h => h) (Or.inl ⟨by rfl, ?_⟩) hHeld ?_ ?_
            rotate_left
            · rintro w' ⟨s0, s1, s2, s3, s4, s5, s6, s7⟩
              go_simp
              with_reducible rfl
            rotate_left
            · simp only [Act.put, List.setIfInBounds_toArray, List.set_cons_zero, List.set_cons_succ, i64_w, i32_w]
              rfl
            refine take_ (i := 1) (N := some 50) (v := ?_) (a' := ?_) #[true, true, false, false, false] rfl rfl (by kernel_rfl) (fun _ _ _ h => h) (Or.inl ⟨by rfl, ?_⟩) hHeld ?_ ?_
            rotate_left
            · rintro w' ⟨s0, s1, s2, s3, s4, s5, s6, s7⟩
              go_simp
              with_reducible rfl
            rotate_left
            · simp only [Act.put, List.setIfInBounds_toArray, List.set_cons_zero, List.set_cons_succ, i64_w, i32_w]
              rfl
            refine one_ (i := 2) (N := some 51) #[true, true, true, false, false] rfl rfl (by kernel_rfl) (by decide) (fun K hK => ?_)
            refine goes_ Try.func39 (by kernel_rfl) rfl #[.agg #[.int .i64 a0_0, .int .i64 a0_1, .int .i64 a0_2, .slice A0_3 l0_3.length c0_3]] (by rfl) rfl rfl (by (try simp only [List.map_toArray, List.map_cons, List.map_nil]); first | done | rfl | (simp only [List.length_drop, List.length_take]; rfl)) ?_
            with_reducible refine (laws_toBoard.calls kj12 a0_0 a0_1 a0_2 _ _ l0_3 t44125 t44126 t44127 t44128 _ ?side1 ?side2 A35.out).mono ?_
            (case side1 => repeat (first | exact (Kd.C_below HR0_3.out HB.out) | (with_reducible refine Kd.C_alloc ?_ _) | (with_reducible refine Kd.C_drewN ?_ _) | (with_reducible refine Kd.C_drew ?_)))
            (case side2 => exact HC0_3.out)
            rintro e w84 ⟨v44129, rfl, ho0, hb⟩
            refine ⟨_, rfl, ?_⟩
            have n0_ := Aside0.mk (Kd.R_below (by (with_reducible repeat (first | apply Kd.R_alloc | apply Kd.R_drewN | apply Kd.R_drew)); exact HO_8.out) hb)
            have n1_ := Aside0.mk (Kd.R_below (by (with_reducible repeat (first | apply Kd.R_alloc | apply Kd.R_drewN | apply Kd.R_drew)); exact HO_11.out) hb)
            have n2_ := Aside0.mk (Kd.R_elder' (by (with_reducible repeat (first | apply Kd.R_alloc | apply Kd.R_drewN | apply Kd.R_drew)); exact HO_44120003.out) (Kd.R_base ho0) hb)
            have n3_ := Aside0.mk (Kd.R_lower (Kd.R_new' ho0 (Kd.R_lt (by (with_reducible repeat (first | apply Kd.R_alloc | apply Kd.R_drewN | apply Kd.R_drew)); exact HO_44120003.out))) (below_size (by repeat (first | (with_reducible first | exact HB.out | apply below_alloc | apply pw_below_drewN | apply below_drew1 | refine below_set ?_ GE44101.out | refine below_set ?_ GE44119.out) | exact HB.out))))
            have n4_ := Aside0.mk (blk_below (g := gb44101) (o := .cells #[.int .i64 a0_0, .int .i64 a0_1, .int .i64 a0_2, .slice A0_3 l0_3.length c0_3] 24 (0, 0)) (by (with_reducible repeat (first | refine blk_drewN ?_ _ | refine blk_drew ?_ | refine blk_alloc ?_ _)); exact BK44101.out) hb)
            have n5_ := Aside0.mk (blk_below (g := gb44119) (o := .cells #[.int .i64 t44113, .int .i64 t44114, .int .i64 t44115, .slice Ao26 t44116.length co26] 32 (0, 0)) (by (with_reducible repeat (first | refine blk_drewN ?_ _ | refine blk_drew ?_ | refine blk_alloc ?_ _)); exact BK44119.out) hb)
            have n6_ := Aside0.mk (below_step (by repeat (first | (with_reducible first | exact HB.out | apply below_alloc | apply pw_below_drewN | apply below_drew1 | refine below_set ?_ GE44101.out | refine below_set ?_ GE44119.out) | exact HB.out)) hb)
            clear HO_8
            clear HO_11
            clear HO_44120003
            clear BK44101
            clear BK44119
            clear HB
            have HO_8 := n0_
            have HO_11 := n1_
            have HO_44120003 := n2_
            have HO44130 := n3_
            have BK44101 := n4_
            have BK44119 := n5_
            have HB := n6_
            clear n0_ n1_ n2_ n3_ n4_ n5_ n6_
            (try clear hb)
            (try clear hb2)
            (try clear hk)
            (try clear hi)
            (try clear ho0)
            obtain ⟨Ao85, co85, eo85⟩ := Kd.R_slice HO44130.out
            (first | subst eo85 | (injection eo85 with f1_ f2_ f3_; have f4_ := f1_.symm; have f5_ := f3_.symm; clear f1_ f2_ f3_; subst f4_; subst f5_))
            refine hK.out _ _ ⟨(blk_cell BK44119.out 0).trans rfl, (blk_cell BK44119.out 1).trans rfl, (blk_cell BK44119.out 2).trans rfl, (blk_cell BK44119.out 3).trans rfl, (blk_cell BK44101.out 0).trans rfl, (blk_cell BK44101.out 1).trans rfl, (blk_cell BK44101.out 2).trans rfl, (blk_cell BK44101.out 3).trans rfl⟩ (fun hHeld => ?_)
            clear hK K
            refine norm_ (a' := ?_) ?_ ?_
            rotate_left
            · show Act.put _ (some 51) _ = _
              simp only [Act.put, List.setIfInBounds_toArray, List.set_cons_zero, List.set_cons_succ, i64_w, i32_w]
              rfl
            refine one_ (i := 3) (N := some 52) #[true, true, true, true, false] rfl rfl (by kernel_rfl) (by decide) (fun K hK => ?_)
            refine goes_ Try.func42 (by kernel_rfl) rfl #[.agg #[.int .i64 t44113, .int .i64 t44114, .int .i64 t44115, .slice Ao26 t44116.length co26], .agg #[.int .i64 t44125, .int .i64 t44126, .int .i64 t44127, .slice Ao85 t44128.length co85]] (by rfl) rfl rfl (by (try simp only [List.map_toArray, List.map_cons, List.map_nil]); first | done | rfl | (simp only [List.length_drop, List.length_take]; rfl)) ?_
            with_reducible refine (laws_eqBoard.calls kj12 t44113 t44114 t44115 _ _ t44116 t44125 t44126 t44127 _ _ t44128 false _ ?side1 ?side2 ?side3 ?side4 A36.out).mono ?_
            (case side1 => repeat (first | exact (Kd.R_reads' HO_44120003.out).2.2 | (with_reducible refine Kd.C_alloc ?_ _) | (with_reducible refine Kd.C_drewN ?_ _) | (with_reducible refine Kd.C_drew ?_)))
            (case side2 => exact (Kd.R_reads' HO_44120003.out).2.1)
            (case side3 => repeat (first | exact (Kd.R_reads' HO44130.out).2.2 | (with_reducible refine Kd.C_alloc ?_ _) | (with_reducible refine Kd.C_drewN ?_ _) | (with_reducible refine Kd.C_drew ?_)))
            (case side4 => exact (Kd.R_reads' HO44130.out).2.1)
            rintro e w86 ⟨rfl, hb⟩
            refine ⟨_, rfl, ?_⟩
            have n0_ := Aside0.mk (Kd.R_below (by (with_reducible repeat (first | apply Kd.R_alloc | apply Kd.R_drewN | apply Kd.R_drew)); exact HO_8.out) hb)
            have n1_ := Aside0.mk (Kd.R_below (by (with_reducible repeat (first | apply Kd.R_alloc | apply Kd.R_drewN | apply Kd.R_drew)); exact HO_11.out) hb)
            have n2_ := Aside0.mk (Kd.R_below (by (with_reducible repeat (first | apply Kd.R_alloc | apply Kd.R_drewN | apply Kd.R_drew)); exact HO_44120003.out) hb)
            have n3_ := Aside0.mk (Kd.R_below (by (with_reducible repeat (first | apply Kd.R_alloc | apply Kd.R_drewN | apply Kd.R_drew)); exact HO44130.out) hb)
            have n4_ := Aside0.mk (blk_below (g := gb44101) (o := .cells #[.int .i64 a0_0, .int .i64 a0_1, .int .i64 a0_2, .slice A0_3 l0_3.length c0_3] 24 (0, 0)) (by (with_reducible repeat (first | refine blk_drewN ?_ _ | refine blk_drew ?_ | refine blk_alloc ?_ _)); exact BK44101.out) hb)
            have n5_ := Aside0.mk (blk_below (g := gb44119) (o := .cells #[.int .i64 t44113, .int .i64 t44114, .int .i64 t44115, .slice Ao26 t44116.length co26] 32 (0, 0)) (by (with_reducible repeat (first | refine blk_drewN ?_ _ | refine blk_drew ?_ | refine blk_alloc ?_ _)); exact BK44119.out) hb)
            have n6_ := Aside0.mk (below_step (by repeat (first | (with_reducible first | exact HB.out | apply below_alloc | apply pw_below_drewN | apply below_drew1 | refine below_set ?_ GE44101.out | refine below_set ?_ GE44119.out) | exact HB.out)) hb)
            clear HO_8
            clear HO_11
            clear HO_44120003
            clear HO44130
            clear BK44101
            clear BK44119
            clear HB
            have HO_8 := n0_
            have HO_11 := n1_
            have HO_44120003 := n2_
            have HO44130 := n3_
            have BK44101 := n4_
            have BK44119 := n5_
            have HB := n6_
            clear n0_ n1_ n2_ n3_ n4_ n5_ n6_
            (try clear hb)
            (try clear hb2)
            (try clear hk)
            (try clear hi)
            refine hK.out _ _ ⟨(blk_cell BK44119.out 0).trans rfl, (blk_cell BK44119.out 1).trans rfl, (blk_cell BK44119.out 2).trans rfl, (blk_cell BK44119.out 3).trans rfl, (blk_cell BK44101.out 0).trans rfl, (blk_cell BK44101.out 1).trans rfl, (blk_cell BK44101.out 2).trans rfl, (blk_cell BK44101.out 3).trans rfl⟩ (fun hHeld => ?_)
            clear hK K
            refine norm_ (a' := ?_) ?_ ?_
            rotate_left
            · show Act.put _ (some 52) _ = _
              simp only [Act.put, List.setIfInBounds_toArray, List.set_cons_zero, List.set_cons_succ, i64_w, i32_w]
              rfl
            refine pure_ (i := 4) (N := some 53) (v := ?_) (a' := ?_) #[true, true, true, true, true] rfl rfl (by kernel_rfl) (fun _ _ _ h => h) (Or.inl ⟨by rfl, ?_⟩) ?_ ?_
            rotate_left
            · intro w'
              go_simp
              with_reducible rfl
            rotate_left
            · simp only [Act.put, List.setIfInBounds_toArray, List.set_cons_zero, List.set_cons_succ, i64_w, i32_w]
              rfl
            refine done_ (by kernel_rfl) ?_
            try go_wp2
            go_ret
            exact ⟨by first | rfl | (simp [errW_none, errW_some] <;> rfl) | (simp [*, errW_none, errW_some] <;> rfl), by repeat (first | (with_reducible first | exact HB.out | apply below_alloc | apply pw_below_drewN | apply below_drew1 | refine below_set ?_ GE44101.out | refine below_set ?_ GE44119.out) | exact HB.out)⟩

end Go.Proofs.Ytkobjjadojpjfaa.Pr
