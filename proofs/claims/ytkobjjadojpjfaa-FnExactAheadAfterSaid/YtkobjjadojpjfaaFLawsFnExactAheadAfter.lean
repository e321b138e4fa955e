-- A text of the machine side, written by wip/gen.py of this repo out of the translation. Not trusted: Lean checks it.
import Derived.Test.YtkobjjadojpjfaaF0
import Derived.Test.YtkobjjadojpjfaaFGA
import Derived.Test.YtkobjjadojpjfaaFImplAheadAfter
import Derived.Test.YtkobjjadojpjfaaFSpecAheadAfter
namespace Go.Proofs.Ytkobjjadojpjfaa.Pr
open Go.RowKit Go.Proofs.YtkobjjadojpjfaaW.PrintWords Go.Proofs.YtkobjjadojpjfaaW.PrintLast Go.Proofs.YtkobjjadojpjfaaW.PrintMore
attribute [local go_sem] max2_int min2_int max_two min_two max_three min_three max_four min_four   -- for this text's walks alone
set_option linter.unusedVariables false
set_option linter.unusedSimpArgs false

/-! ### laws_FnExactAheadAfter: function 17 -/
def laws_FnExactAheadAfter.j0 : Nat → Bool → Int → Int → Int → List (S82) → Int → Int → Int → List (S27) → Option (Bool)
  | 0, _, _, _, _, _, _, _, _, _ => none
  | k + 1, x64, x34102000, x34102001, x34102002, x34102003, x34120000, x34120001, x34120002, x34120003 => if x64 = true then (some false) else ((laws_toBoard.f k x34102000 x34102001 x34102002 x34102003).bind fun bt34124 => ((laws_eqBoard.f k x34120000 x34120001 x34120002 x34120003 bt34124.1 bt34124.2.1 bt34124.2.2.1 bt34124.2.2.2).bind fun t34130 => (if t34130 = true then (some true) else (some false))))
def laws_FnExactAheadAfter.f (k : Nat) (a0_0 : Int) (a0_1 : Int) (a0_2 : Int) (l0_3 : List (S82)) (a1 : Int) (a2 : Int) (a3 : Int) : Option (Bool) := (laws_szBoard.f a0_0 a0_1 a0_2 l0_3 1048576).bind fun t34102 => (if t34102 < 0 then (some true) else ((laws_toBoard.f k a0_0 a0_1 a0_2 l0_3).bind fun bt34103 => ((spec_AheadAfter.f k bt34103.1 bt34103.2.1 bt34103.2.2.1 bt34103.2.2.2 a1 a2 a3).bind fun bt34109 => ((laws_toBoard.f k a0_0 a0_1 a0_2 l0_3).bind fun bt34113 => ((impl_AheadAfter.f k bt34113.1 bt34113.2.1 bt34113.2.2.1 bt34113.2.2.2 a1 a2 a3).bind fun bt34120 => (if bt34120.1 = bt34109.1 then (if bt34120.2.1 = bt34109.2.1 then (if bt34120.2.2.1 = bt34109.2.2.1 then (laws_FnExactAheadAfter.j0 k (bt34120.2.2.2 != bt34109.2.2.2) a0_0 a0_1 a0_2 l0_3 bt34113.1 bt34113.2.1 bt34113.2.2.1 bt34113.2.2.2) else (laws_FnExactAheadAfter.j0 k true a0_0 a0_1 a0_2 l0_3 bt34113.1 bt34113.2.1 bt34113.2.2.1 bt34113.2.2.2)) else (laws_FnExactAheadAfter.j0 k true a0_0 a0_1 a0_2 l0_3 bt34113.1 bt34113.2.1 bt34113.2.2.1 bt34113.2.2.2)) else (laws_FnExactAheadAfter.j0 k true a0_0 a0_1 a0_2 l0_3 bt34113.1 bt34113.2.1 bt34113.2.2.1 bt34113.2.2.2)))))))
theorem laws_FnExactAheadAfter.mono_l : ∀ k, (∀ y0 y1 y2 y3 y4 y5 y6 y7 y8, LeO (laws_FnExactAheadAfter.j0 k y0 y1 y2 y3 y4 y5 y6 y7 y8) (laws_FnExactAheadAfter.j0 (k + 1) y0 y1 y2 y3 y4 y5 y6 y7 y8))
  | 0 => fun _ _ _ _ _ _ _ _ _ r h => by simp [laws_FnExactAheadAfter.j0] at h
  | k + 1 => by
    have ih0 := laws_FnExactAheadAfter.mono_l k
    · intro y0 y1 y2 y3 y4 y5 y6 y7 y8
      unfold laws_FnExactAheadAfter.j0
      repeat' first
      | (with_reducible exact ih0 _ _ _ _ _ _ _ _ _)
      | (with_reducible exact impl_AheadAfter.mono _ _ _ _ _ _ _ _)
      | (with_reducible exact laws_eqBoard.mono _ _ _ _ _ _ _ _ _)
      | (with_reducible exact laws_toBoard.mono _ _ _ _ _)
      | (with_reducible exact spec_AheadAfter.mono _ _ _ _ _ _ _ _)
      | (with_reducible exact LeO.refl _)
      | (with_reducible exact LeO.none _)
      | (with_reducible refine LeO.ite ?_ ?_)
      | (with_reducible refine LeO.bind ?_ (fun _ => ?_))
      | exact ih0 _ _ _ _ _ _ _ _ _
      | exact impl_AheadAfter.mono _ _ _ _ _ _ _ _
      | exact laws_eqBoard.mono _ _ _ _ _ _ _ _ _
      | exact laws_toBoard.mono _ _ _ _ _
      | exact spec_AheadAfter.mono _ _ _ _ _ _ _ _
      | exact LeO.none _
      | refine LeO.ite ?_ ?_
      | refine LeO.bind ?_ (fun _ => ?_)
theorem laws_FnExactAheadAfter.mono : ∀ a0 a1 a2 a3 a4 a5 a6 k, LeO (laws_FnExactAheadAfter.f k a0 a1 a2 a3 a4 a5 a6) (laws_FnExactAheadAfter.f (k + 1) a0 a1 a2 a3 a4 a5 a6) := by
  intro a0 a1 a2 a3 a4 a5 a6 k
  have ih0 := laws_FnExactAheadAfter.mono_l k
  unfold laws_FnExactAheadAfter.f
  repeat' first
      | (with_reducible exact ih0 _ _ _ _ _ _ _ _ _)
      | (with_reducible exact impl_AheadAfter.mono _ _ _ _ _ _ _ _)
      | (with_reducible exact laws_eqBoard.mono _ _ _ _ _ _ _ _ _)
      | (with_reducible exact laws_toBoard.mono _ _ _ _ _)
      | (with_reducible exact spec_AheadAfter.mono _ _ _ _ _ _ _ _)
      | (with_reducible exact LeO.refl _)
      | (with_reducible exact LeO.none _)
      | (with_reducible refine LeO.ite ?_ ?_)
      | (with_reducible refine LeO.bind ?_ (fun _ => ?_))
      | exact ih0 _ _ _ _ _ _ _ _ _
      | exact impl_AheadAfter.mono _ _ _ _ _ _ _ _
      | exact laws_eqBoard.mono _ _ _ _ _ _ _ _ _
      | exact laws_toBoard.mono _ _ _ _ _
      | exact spec_AheadAfter.mono _ _ _ _ _ _ _ _
      | exact LeO.none _
      | refine LeO.ite ?_ ?_
      | refine LeO.bind ?_ (fun _ => ?_)
set_option maxHeartbeats 8000000 in
set_option maxRecDepth 100000 in
theorem laws_FnExactAheadAfter.calls (k : Nat) (a0_0 : Int) (a0_1 : Int) (a0_2 : Int) (A0_3 : Option Addr) (c0_3 : Nat) (l0_3 : List (S82)) (a1 : Int) (a2 : Int) (a3 : Int) (r : Bool) (w : World) (hr0_3 : Kd.C k82 w A0_3 l0_3.length l0_3) (hc0_3 : l0_3.length ≤ c0_3) (h : laws_FnExactAheadAfter.f k a0_0 a0_1 a0_2 l0_3 a1 a2 a3 = some r) :
    Calls Try.prog 17 #[.agg #[.int .i64 a0_0, .int .i64 a0_1, .int .i64 a0_2, .slice A0_3 l0_3.length c0_3], .int .i64 a1, .int .i64 a2, .int .i64 a3] w fun e w' => e = .returned (.bool r) ∧ Below w.heap.size w w' := by
  have hu24 := Try.underlying24
  have hu32 := Try.underlying32
  have HR0_3 := Aside0.mk hr0_3
  have HC0_3 := Aside0.mk hc0_3
  clear hr0_3 hc0_3
  have HB := Aside0.mk (Below.refl w.heap.size w)
  have H : ((laws_szBoard.f a0_0 a0_1 a0_2 l0_3 1048576).bind fun t34102 => (if t34102 < 0 then (some true) else ((laws_toBoard.f k a0_0 a0_1 a0_2 l0_3).bind fun bt34103 => ((spec_AheadAfter.f k bt34103.1 bt34103.2.1 bt34103.2.2.1 bt34103.2.2.2 a1 a2 a3).bind fun bt34109 => ((laws_toBoard.f k a0_0 a0_1 a0_2 l0_3).bind fun bt34113 => ((impl_AheadAfter.f k bt34113.1 bt34113.2.1 bt34113.2.2.1 bt34113.2.2.2 a1 a2 a3).bind fun bt34120 => (if bt34120.1 = bt34109.1 then (if bt34120.2.1 = bt34109.2.1 then (if bt34120.2.2.1 = bt34109.2.2.1 then (laws_FnExactAheadAfter.j0 k (bt34120.2.2.2 != bt34109.2.2.2) a0_0 a0_1 a0_2 l0_3 bt34113.1 bt34113.2.1 bt34113.2.2.1 bt34113.2.2.2) else (laws_FnExactAheadAfter.j0 k true a0_0 a0_1 a0_2 l0_3 bt34113.1 bt34113.2.1 bt34113.2.2.1 bt34113.2.2.2)) else (laws_FnExactAheadAfter.j0 k true a0_0 a0_1 a0_2 l0_3 bt34113.1 bt34113.2.1 bt34113.2.2.1 bt34113.2.2.2)) else (laws_FnExactAheadAfter.j0 k true a0_0 a0_1 a0_2 l0_3 bt34113.1 bt34113.2.1 bt34113.2.2.1 bt34113.2.2.2)))))))) = some r := h
  clear h
  replace H := Option.bind_eq_some_iff.mp H
  obtain ⟨t34102, A50, H⟩ := H
  replace H : (if t34102 < 0 then (some true) else ((laws_toBoard.f k a0_0 a0_1 a0_2 l0_3).bind fun bt34103 => ((spec_AheadAfter.f k bt34103.1 bt34103.2.1 bt34103.2.2.1 bt34103.2.2.2 a1 a2 a3).bind fun bt34109 => ((laws_toBoard.f k a0_0 a0_1 a0_2 l0_3).bind fun bt34113 => ((impl_AheadAfter.f k bt34113.1 bt34113.2.1 bt34113.2.2.1 bt34113.2.2.2 a1 a2 a3).bind fun bt34120 => (if bt34120.1 = bt34109.1 then (if bt34120.2.1 = bt34109.2.1 then (if bt34120.2.2.1 = bt34109.2.2.1 then (laws_FnExactAheadAfter.j0 k (bt34120.2.2.2 != bt34109.2.2.2) a0_0 a0_1 a0_2 l0_3 bt34113.1 bt34113.2.1 bt34113.2.2.1 bt34113.2.2.2) else (laws_FnExactAheadAfter.j0 k true a0_0 a0_1 a0_2 l0_3 bt34113.1 bt34113.2.1 bt34113.2.2.1 bt34113.2.2.2)) else (laws_FnExactAheadAfter.j0 k true a0_0 a0_1 a0_2 l0_3 bt34113.1 bt34113.2.1 bt34113.2.2.1 bt34113.2.2.2)) else (laws_FnExactAheadAfter.j0 k true a0_0 a0_1 a0_2 l0_3 bt34113.1 bt34113.2.1 bt34113.2.2.1 bt34113.2.2.2))))))) = some r := H
  have A5 := Aside0.mk A50
  clear A50
  by_cases c6 : t34102 < 0
  · rw [if_pos c6] at H
    have c6b0 : decide (t34102 < 0) = true := decide_eq_true c6
    clear c6
    obtain rfl := Option.some.inj H
    go_enter Try.func17, Try.ntmps17
    go_wp2_with (first | ((with_reducible refine gate_dst (N := 4) rfl ?_); refine box_event ?hg (N := 4) ?hd (cs := #[.int .i64 a0_0, .int .i64 a0_1, .int .i64 a0_2, .slice A0_3 l0_3.length c0_3]) (t := 24) ?hr ?_; (case hd => rfl); (case hg => rfl); (case hr => first | (go_simp; done) | (go_simp; rfl)); intro gb34101 hg w7 hbox hb; have n0_ := Aside0.mk (below_step (by repeat (first | (with_reducible first | exact HB.out | apply below_alloc | apply pw_below_drewN | apply below_drew1) | exact HB.out)) hb); have n1_ := Aside0.mk (hbox); have n2_ := Aside0.mk ((by rw [hg]; exact (below_size (by repeat (first | (with_reducible first | exact HB.out | apply below_alloc | apply pw_below_drewN | apply below_drew1) | exact HB.out))) : w.heap.size ≤ gb34101)); have n3_ := Aside0.mk ((by rw [hg]; exact (below_size (by repeat (first | (with_reducible first | exact HB.out | apply below_alloc | apply pw_below_drewN | apply below_drew1) | exact HB.out))) : w.heap.size ≤ gb34101)); clear HB; have HB := n0_; have BK34101 := n1_; have GW34101 := n2_; have GE34101 := n3_; clear n0_ n1_ n2_ n3_; clear hb hbox hg; have hcz8_0 : w7.cell? ⟨gb34101, 0, none⟩ = some (.int .i64 a0_0) := (blk_cell BK34101.out 0).trans rfl; have hcz8_1 : w7.cell? ⟨gb34101, 1, none⟩ = some (.int .i64 a0_1) := (blk_cell BK34101.out 1).trans rfl; have hcz8_2 : w7.cell? ⟨gb34101, 2, none⟩ = some (.int .i64 a0_2) := (blk_cell BK34101.out 2).trans rfl; have hcz8_3 : w7.cell? ⟨gb34101, 3, none⟩ = some (.slice A0_3 l0_3.length c0_3) := (blk_cell BK34101.out 3).trans rfl; have hfz8_0 := blk_frozen BK34101.out 0; have hfz8_1 := blk_frozen BK34101.out 1; have hfz8_2 := blk_frozen BK34101.out 2; have hfz8_3 := blk_frozen BK34101.out 3) | ((with_reducible refine gate_callee (f := 37) rfl ?_); refine goesL_ (some 21) rfl rfl Try.func37 (by kernel_rfl) rfl #[.agg #[.int .i64 a0_0, .int .i64 a0_1, .int .i64 a0_2, .slice A0_3 l0_3.length c0_3], .int .i64 1048576] rfl (by (try simp only [List.map_toArray, List.map_cons, List.map_nil]); first | done | rfl | (simp only [List.length_drop, List.length_take]; rfl)) ?_; (with_reducible refine (laws_szBoard.calls a0_0 a0_1 a0_2 _ _ l0_3 1048576 t34102 _ ?side1 ?side2 A5.out).mono ?_); (case side1 => repeat (first | exact (Kd.C_below HR0_3.out HB.out) | (with_reducible refine Kd.C_alloc ?_ _) | (with_reducible refine Kd.C_drewN ?_ _) | (with_reducible refine Kd.C_drew ?_))); (case side2 => exact HC0_3.out); rintro e w9 ⟨rfl, hb⟩; refine ⟨_, rfl, ?_⟩; have n0_ := Aside0.mk (blk_below (g := gb34101) (o := .cells #[.int .i64 a0_0, .int .i64 a0_1, .int .i64 a0_2, .slice A0_3 l0_3.length c0_3] 24 (0, 0)) (by (with_reducible repeat (first | refine blk_drewN ?_ _ | refine blk_drew ?_ | refine blk_alloc ?_ _)); exact BK34101.out) hb); have n1_ := Aside0.mk (below_step (by repeat (first | (with_reducible first | exact HB.out | apply below_alloc | apply pw_below_drewN | apply below_drew1 | refine below_set ?_ GE34101.out) | exact HB.out)) hb); clear BK34101; clear HB; have BK34101 := n0_; have HB := n1_; clear n0_ n1_; (try clear hb); (try clear hb2); (try clear hk); (try clear hi)))
    go_ret
    exact ⟨by first | rfl | (simp [errW_none, errW_some] <;> rfl) | (simp [*, errW_none, errW_some] <;> rfl), by repeat (first | (with_reducible first | exact HB.out | apply below_alloc | apply pw_below_drewN | apply below_drew1 | refine below_set ?_ GE34101.out) | exact HB.out)⟩
  · rw [if_neg c6] at H
    have c6b0 : decide (t34102 < 0) = false := decide_eq_false c6
    clear c6
    replace H := Option.bind_eq_some_iff.mp H
    obtain ⟨⟨t34103, t34104, t34105, t34106⟩, A100, H⟩ := H
    replace H : ((spec_AheadAfter.f k t34103 t34104 t34105 t34106 a1 a2 a3).bind fun bt34109 => ((laws_toBoard.f k a0_0 a0_1 a0_2 l0_3).bind fun bt34113 => ((impl_AheadAfter.f k bt34113.1 bt34113.2.1 bt34113.2.2.1 bt34113.2.2.2 a1 a2 a3).bind fun bt34120 => (if bt34120.1 = bt34109.1 then (if bt34120.2.1 = bt34109.2.1 then (if bt34120.2.2.1 = bt34109.2.2.1 then (laws_FnExactAheadAfter.j0 k (bt34120.2.2.2 != bt34109.2.2.2) a0_0 a0_1 a0_2 l0_3 bt34113.1 bt34113.2.1 bt34113.2.2.1 bt34113.2.2.2) else (laws_FnExactAheadAfter.j0 k true a0_0 a0_1 a0_2 l0_3 bt34113.1 bt34113.2.1 bt34113.2.2.1 bt34113.2.2.2)) else (laws_FnExactAheadAfter.j0 k true a0_0 a0_1 a0_2 l0_3 bt34113.1 bt34113.2.1 bt34113.2.2.1 bt34113.2.2.2)) else (laws_FnExactAheadAfter.j0 k true a0_0 a0_1 a0_2 l0_3 bt34113.1 bt34113.2.1 bt34113.2.2.1 bt34113.2.2.2))))) = some r := H
    have A10 := Aside0.mk A100
    clear A100
    replace H := Option.bind_eq_some_iff.mp H
    obtain ⟨⟨t34109, t34110, t34111, t34112⟩, A110, H⟩ := H
    replace H : ((laws_toBoard.f k a0_0 a0_1 a0_2 l0_3).bind fun bt34113 => ((impl_AheadAfter.f k bt34113.1 bt34113.2.1 bt34113.2.2.1 bt34113.2.2.2 a1 a2 a3).bind fun bt34120 => (if bt34120.1 = t34109 then (if bt34120.2.1 = t34110 then (if bt34120.2.2.1 = t34111 then (laws_FnExactAheadAfter.j0 k (bt34120.2.2.2 != t34112) a0_0 a0_1 a0_2 l0_3 bt34113.1 bt34113.2.1 bt34113.2.2.1 bt34113.2.2.2) else (laws_FnExactAheadAfter.j0 k true a0_0 a0_1 a0_2 l0_3 bt34113.1 bt34113.2.1 bt34113.2.2.1 bt34113.2.2.2)) else (laws_FnExactAheadAfter.j0 k true a0_0 a0_1 a0_2 l0_3 bt34113.1 bt34113.2.1 bt34113.2.2.1 bt34113.2.2.2)) else (laws_FnExactAheadAfter.j0 k true a0_0 a0_1 a0_2 l0_3 bt34113.1 bt34113.2.1 bt34113.2.2.1 bt34113.2.2.2)))) = some r := H
    have A11 := Aside0.mk A110
    clear A110
    replace H := Option.bind_eq_some_iff.mp H
    obtain ⟨⟨t34113, t34114, t34115, t34116⟩, A120, H⟩ := H
    replace H : ((impl_AheadAfter.f k t34113 t34114 t34115 t34116 a1 a2 a3).bind fun bt34120 => (if bt34120.1 = t34109 then (if bt34120.2.1 = t34110 then (if bt34120.2.2.1 = t34111 then (laws_FnExactAheadAfter.j0 k (bt34120.2.2.2 != t34112) a0_0 a0_1 a0_2 l0_3 t34113 t34114 t34115 t34116) else (laws_FnExactAheadAfter.j0 k true a0_0 a0_1 a0_2 l0_3 t34113 t34114 t34115 t34116)) else (laws_FnExactAheadAfter.j0 k true a0_0 a0_1 a0_2 l0_3 t34113 t34114 t34115 t34116)) else (laws_FnExactAheadAfter.j0 k true a0_0 a0_1 a0_2 l0_3 t34113 t34114 t34115 t34116))) = some r := H
    have A12 := Aside0.mk A120
    clear A120
    replace H := Option.bind_eq_some_iff.mp H
    obtain ⟨⟨t34120, t34121, t34122, t34123⟩, A130, H⟩ := H
    replace H : (if t34120 = t34109 then (if t34121 = t34110 then (if t34122 = t34111 then (laws_FnExactAheadAfter.j0 k (t34123 != t34112) a0_0 a0_1 a0_2 l0_3 t34113 t34114 t34115 t34116) else (laws_FnExactAheadAfter.j0 k true a0_0 a0_1 a0_2 l0_3 t34113 t34114 t34115 t34116)) else (laws_FnExactAheadAfter.j0 k true a0_0 a0_1 a0_2 l0_3 t34113 t34114 t34115 t34116)) else (laws_FnExactAheadAfter.j0 k true a0_0 a0_1 a0_2 l0_3 t34113 t34114 t34115 t34116)) = some r := H
    have A13 := Aside0.mk A130
    clear A130
    have HC14 := Aside0.mk H
    clear H
    go_enter Try.func17, Try.ntmps17
    go_upto_region 8 with (first | ((with_reducible refine gate_dst (N := 4) rfl ?_); refine box_event ?hg (N := 4) ?hd (cs := #[.int .i64 a0_0, .int .i64 a0_1, .int .i64 a0_2, .slice A0_3 l0_3.length c0_3]) (t := 24) ?hr ?_; (case hd => rfl); (case hg => rfl); (case hr => first | (go_simp; done) | (go_simp; rfl)); intro gb34101 hg w15 hbox hb; have n0_ := Aside0.mk (below_step (by repeat (first | (with_reducible first | exact HB.out | apply below_alloc | apply pw_below_drewN | apply below_drew1) | exact HB.out)) hb); have n1_ := Aside0.mk (hbox); have n2_ := Aside0.mk ((by rw [hg]; exact (below_size (by repeat (first | (with_reducible first | exact HB.out | apply below_alloc | apply pw_below_drewN | apply below_drew1) | exact HB.out))) : w.heap.size ≤ gb34101)); have n3_ := Aside0.mk ((by rw [hg]; exact (below_size (by repeat (first | (with_reducible first | exact HB.out | apply below_alloc | apply pw_below_drewN | apply below_drew1) | exact HB.out))) : w.heap.size ≤ gb34101)); clear HB; have HB := n0_; have BK34101 := n1_; have GW34101 := n2_; have GE34101 := n3_; clear n0_ n1_ n2_ n3_; clear hb hbox hg; have hcz16_0 : w15.cell? ⟨gb34101, 0, none⟩ = some (.int .i64 a0_0) := (blk_cell BK34101.out 0).trans rfl; have hcz16_1 : w15.cell? ⟨gb34101, 1, none⟩ = some (.int .i64 a0_1) := (blk_cell BK34101.out 1).trans rfl; have hcz16_2 : w15.cell? ⟨gb34101, 2, none⟩ = some (.int .i64 a0_2) := (blk_cell BK34101.out 2).trans rfl; have hcz16_3 : w15.cell? ⟨gb34101, 3, none⟩ = some (.slice A0_3 l0_3.length c0_3) := (blk_cell BK34101.out 3).trans rfl; have hfz16_0 := blk_frozen BK34101.out 0; have hfz16_1 := blk_frozen BK34101.out 1; have hfz16_2 := blk_frozen BK34101.out 2; have hfz16_3 := blk_frozen BK34101.out 3) | ((with_reducible refine gate_callee (f := 37) rfl ?_); refine goesL_ (some 21) rfl rfl Try.func37 (by kernel_rfl) rfl #[.agg #[.int .i64 a0_0, .int .i64 a0_1, .int .i64 a0_2, .slice A0_3 l0_3.length c0_3], .int .i64 1048576] rfl (by (try simp only [List.map_toArray, List.map_cons, List.map_nil]); first | done | rfl | (simp only [List.length_drop, List.length_take]; rfl)) ?_; (with_reducible refine (laws_szBoard.calls a0_0 a0_1 a0_2 _ _ l0_3 1048576 t34102 _ ?side1 ?side2 A5.out).mono ?_); (case side1 => repeat (first | exact (Kd.C_below HR0_3.out HB.out) | (with_reducible refine Kd.C_alloc ?_ _) | (with_reducible refine Kd.C_drewN ?_ _) | (with_reducible refine Kd.C_drew ?_))); (case side2 => exact HC0_3.out); rintro e w17 ⟨rfl, hb⟩; refine ⟨_, rfl, ?_⟩; have n0_ := Aside0.mk (blk_below (g := gb34101) (o := .cells #[.int .i64 a0_0, .int .i64 a0_1, .int .i64 a0_2, .slice A0_3 l0_3.length c0_3] 24 (0, 0)) (by (with_reducible repeat (first | refine blk_drewN ?_ _ | refine blk_drew ?_ | refine blk_alloc ?_ _)); exact BK34101.out) hb); have n1_ := Aside0.mk (below_step (by repeat (first | (with_reducible first | exact HB.out | apply below_alloc | apply pw_below_drewN | apply below_drew1 | refine below_set ?_ GE34101.out) | exact HB.out)) hb); clear BK34101; clear HB; have BK34101 := n0_; have HB := n1_; clear n0_ n1_; (try clear hb); (try clear hb2); (try clear hk); (try clear hi); have hcz18_0 : w17.cell? ⟨gb34101, 0, none⟩ = some (.int .i64 a0_0) := (blk_cell BK34101.out 0).trans rfl; have hcz18_1 : w17.cell? ⟨gb34101, 1, none⟩ = some (.int .i64 a0_1) := (blk_cell BK34101.out 1).trans rfl; have hcz18_2 : w17.cell? ⟨gb34101, 2, none⟩ = some (.int .i64 a0_2) := (blk_cell BK34101.out 2).trans rfl; have hcz18_3 : w17.cell? ⟨gb34101, 3, none⟩ = some (.slice A0_3 l0_3.length c0_3) := (blk_cell BK34101.out 3).trans rfl; have hfz18_0 := blk_frozen BK34101.out 0; have hfz18_1 := blk_frozen BK34101.out 1; have hfz18_2 := blk_frozen BK34101.out 2; have hfz18_3 := blk_frozen BK34101.out 3) | ((with_reducible refine gate_callee (f := 39) rfl ?_); refine goesL_ (some 26) rfl rfl Try.func39 (by kernel_rfl) rfl #[.agg #[.int .i64 a0_0, .int .i64 a0_1, .int .i64 a0_2, .slice A0_3 l0_3.length c0_3]] rfl (by (try simp only [List.map_toArray, List.map_cons, List.map_nil]); first | done | rfl | (simp only [List.length_drop, List.length_take]; rfl)) ?_; (with_reducible refine (laws_toBoard.calls k a0_0 a0_1 a0_2 _ _ l0_3 t34103 t34104 t34105 t34106 _ ?side1 ?side2 A10.out).mono ?_); (case side1 => repeat (first | exact (Kd.C_below HR0_3.out HB.out) | (with_reducible refine Kd.C_alloc ?_ _) | (with_reducible refine Kd.C_drewN ?_ _) | (with_reducible refine Kd.C_drew ?_))); (case side2 => exact HC0_3.out); rintro e w19 ⟨v34107, rfl, ho0, hb⟩; refine ⟨_, rfl, ?_⟩; have n0_ := Aside0.mk (Kd.R_lower ho0 (below_size (by repeat (first | (with_reducible first | exact HB.out | apply below_alloc | apply pw_below_drewN | apply below_drew1 | refine below_set ?_ GE34101.out) | exact HB.out)))); have n1_ := Aside0.mk (blk_below (g := gb34101) (o := .cells #[.int .i64 a0_0, .int .i64 a0_1, .int .i64 a0_2, .slice A0_3 l0_3.length c0_3] 24 (0, 0)) (by (with_reducible repeat (first | refine blk_drewN ?_ _ | refine blk_drew ?_ | refine blk_alloc ?_ _)); exact BK34101.out) hb); have n2_ := Aside0.mk (below_step (by repeat (first | (with_reducible first | exact HB.out | apply below_alloc | apply pw_below_drewN | apply below_drew1 | refine below_set ?_ GE34101.out) | exact HB.out)) hb); clear BK34101; clear HB; have HO34108 := n0_; have BK34101 := n1_; have HB := n2_; clear n0_ n1_ n2_; (try clear hb); (try clear hb2); (try clear hk); (try clear hi); (try clear ho0); obtain ⟨Ao20, co20, eo20⟩ := Kd.R_slice HO34108.out; subst eo20) | ((with_reducible refine gate_callee (f := 83) rfl ?_); refine goesL_ (some 30) rfl rfl Try.func83 (by kernel_rfl) rfl #[.agg #[.int .i64 t34103, .int .i64 t34104, .int .i64 t34105, .slice Ao20 t34106.length co20], .int .i64 a1, .int .i64 a2, .int .i64 a3] rfl (by (try simp only [List.map_toArray, List.map_cons, List.map_nil]); first | done | rfl | (simp only [List.length_drop, List.length_take]; rfl)) ?_; (with_reducible refine (spec_AheadAfter.calls k t34103 t34104 t34105 _ _ t34106 a1 a2 a3 t34109 t34110 t34111 t34112 _ ?side1 ?side2 A11.out).mono ?_); (case side1 => repeat (first | exact (Kd.R_reads' HO34108.out).2.2 | (with_reducible refine Kd.C_alloc ?_ _) | (with_reducible refine Kd.C_drewN ?_ _) | (with_reducible refine Kd.C_drew ?_))); (case side2 => exact (Kd.R_reads' HO34108.out).2.1); rintro e w21 ⟨rfl, hb⟩; refine ⟨_, rfl, ?_⟩; have n0_ := Aside0.mk (Kd.R_below (by (with_reducible repeat (first | apply Kd.R_alloc | apply Kd.R_drewN | apply Kd.R_drew)); exact HO34108.out) hb); have n1_ := Aside0.mk (blk_below (g := gb34101) (o := .cells #[.int .i64 a0_0, .int .i64 a0_1, .int .i64 a0_2, .slice A0_3 l0_3.length c0_3] 24 (0, 0)) (by (with_reducible repeat (first | refine blk_drewN ?_ _ | refine blk_drew ?_ | refine blk_alloc ?_ _)); exact BK34101.out) hb); have n2_ := Aside0.mk (below_step (by repeat (first | (with_reducible first | exact HB.out | apply below_alloc | apply pw_below_drewN | apply below_drew1 | refine below_set ?_ GE34101.out) | exact HB.out)) hb); clear HO34108; clear BK34101; clear HB; have HO34108 := n0_; have BK34101 := n1_; have HB := n2_; clear n0_ n1_ n2_; (try clear hb); (try clear hb2); (try clear hk); (try clear hi); have hcz22_0 : w21.cell? ⟨gb34101, 0, none⟩ = some (.int .i64 a0_0) := (blk_cell BK34101.out 0).trans rfl; have hcz22_1 : w21.cell? ⟨gb34101, 1, none⟩ = some (.int .i64 a0_1) := (blk_cell BK34101.out 1).trans rfl; have hcz22_2 : w21.cell? ⟨gb34101, 2, none⟩ = some (.int .i64 a0_2) := (blk_cell BK34101.out 2).trans rfl; have hcz22_3 : w21.cell? ⟨gb34101, 3, none⟩ = some (.slice A0_3 l0_3.length c0_3) := (blk_cell BK34101.out 3).trans rfl; have hfz22_0 := blk_frozen BK34101.out 0; have hfz22_1 := blk_frozen BK34101.out 1; have hfz22_2 := blk_frozen BK34101.out 2; have hfz22_3 := blk_frozen BK34101.out 3) | ((with_reducible refine gate_callee (f := 39) rfl ?_); refine goesL_ (some 36) rfl rfl Try.func39 (by kernel_rfl) rfl #[.agg #[.int .i64 a0_0, .int .i64 a0_1, .int .i64 a0_2, .slice A0_3 l0_3.length c0_3]] rfl (by (try simp only [List.map_toArray, List.map_cons, List.map_nil]); first | done | rfl | (simp only [List.length_drop, List.length_take]; rfl)) ?_; (with_reducible refine (laws_toBoard.calls k a0_0 a0_1 a0_2 _ _ l0_3 t34113 t34114 t34115 t34116 _ ?side1 ?side2 A12.out).mono ?_); (case side1 => repeat (first | exact (Kd.C_below HR0_3.out HB.out) | (with_reducible refine Kd.C_alloc ?_ _) | (with_reducible refine Kd.C_drewN ?_ _) | (with_reducible refine Kd.C_drew ?_))); (case side2 => exact HC0_3.out); rintro e w23 ⟨v34117, rfl, ho0, hb⟩; refine ⟨_, rfl, ?_⟩; have n0_ := Aside0.mk (Kd.R_elder' (by (with_reducible repeat (first | apply Kd.R_alloc | apply Kd.R_drewN | apply Kd.R_drew)); exact HO34108.out) (Kd.R_base ho0) hb); have n1_ := Aside0.mk (Kd.R_lower (Kd.R_new' ho0 (Kd.R_lt (by (with_reducible repeat (first | apply Kd.R_alloc | apply Kd.R_drewN | apply Kd.R_drew)); exact HO34108.out))) (below_size (by repeat (first | (with_reducible first | exact HB.out | apply below_alloc | apply pw_below_drewN | apply below_drew1 | refine below_set ?_ GE34101.out) | exact HB.out)))); have n2_ := Aside0.mk (blk_below (g := gb34101) (o := .cells #[.int .i64 a0_0, .int .i64 a0_1, .int .i64 a0_2, .slice A0_3 l0_3.length c0_3] 24 (0, 0)) (by (with_reducible repeat (first | refine blk_drewN ?_ _ | refine blk_drew ?_ | refine blk_alloc ?_ _)); exact BK34101.out) hb); have n3_ := Aside0.mk (below_step (by repeat (first | (with_reducible first | exact HB.out | apply below_alloc | apply pw_below_drewN | apply below_drew1 | refine below_set ?_ GE34101.out) | exact HB.out)) hb); clear HO34108; clear BK34101; clear HB; have HO34108 := n0_; have HO34118 := n1_; have BK34101 := n2_; have HB := n3_; clear n0_ n1_ n2_ n3_; (try clear hb); (try clear hb2); (try clear hk); (try clear hi); (try clear ho0)) | ((with_reducible refine gate_dst (N := 14) rfl ?_); refine box_event ?hg (N := 14) ?hd (cs := #[.int .i64 0, .int .i64 0, .int .i64 0, .slice none 0 0]) (t := 32) ?hr ?_; (case hd => rfl); (case hg => rfl); (case hr => first | (go_simp; done) | (go_simp; rfl)); intro gb34119 hg w24 hbox hb; have n0_ := Aside0.mk (Kd.R_below (by (with_reducible repeat (first | apply Kd.R_alloc | apply Kd.R_drewN | apply Kd.R_drew)); exact HO34108.out) hb); have n1_ := Aside0.mk (Kd.R_below (by (with_reducible repeat (first | apply Kd.R_alloc | apply Kd.R_drewN | apply Kd.R_drew)); exact HO34118.out) hb); have n2_ := Aside0.mk (blk_below (g := gb34101) (o := .cells #[.int .i64 a0_0, .int .i64 a0_1, .int .i64 a0_2, .slice A0_3 l0_3.length c0_3] 24 (0, 0)) (by (with_reducible repeat (first | refine blk_drewN ?_ _ | refine blk_drew ?_ | refine blk_alloc ?_ _)); exact BK34101.out) hb); have n3_ := Aside0.mk (below_step (by repeat (first | (with_reducible first | exact HB.out | apply below_alloc | apply pw_below_drewN | apply below_drew1 | refine below_set ?_ GE34101.out) | exact HB.out)) hb); have n4_ := Aside0.mk (hbox); have n5_ := Aside0.mk ((by rw [hg]; exact (below_size (by repeat (first | (with_reducible first | exact HB.out | apply below_alloc | apply pw_below_drewN | apply below_drew1 | refine below_set ?_ GE34101.out) | exact HB.out))) : w.heap.size ≤ gb34119)); have n6_ := Aside0.mk ((by rw [hg]; exact (below_size (by repeat (first | (with_reducible first | exact HB.out | apply below_alloc | apply pw_below_drewN | apply below_drew1 | refine below_set ?_ GE34101.out) | exact HB.out))) : w.heap.size ≤ gb34119)); have n7_ := Aside0.mk ((by rw [hg]; exact Nat.ne_of_lt (blk_lt (g := gb34101) (o := .cells #[.int .i64 a0_0, .int .i64 a0_1, .int .i64 a0_2, .slice A0_3 l0_3.length c0_3] 24 (0, 0)) (by (with_reducible repeat (first | refine blk_drewN ?_ _ | refine blk_drew ?_ | refine blk_alloc ?_ _)); exact BK34101.out)) : gb34101 ≠ gb34119)); have n8_ := Aside0.mk ((by rw [hg]; exact Nat.ne_of_gt (blk_lt (g := gb34101) (o := .cells #[.int .i64 a0_0, .int .i64 a0_1, .int .i64 a0_2, .slice A0_3 l0_3.length c0_3] 24 (0, 0)) (by (with_reducible repeat (first | refine blk_drewN ?_ _ | refine blk_drew ?_ | refine blk_alloc ?_ _)); exact BK34101.out)) : gb34119 ≠ gb34101)); clear HO34108; clear HO34118; clear BK34101; clear HB; have HO34108 := n0_; have HO34118 := n1_; have BK34101 := n2_; have HB := n3_; have BK34119 := n4_; have GW34119 := n5_; have GE34119 := n6_; have NB34101_34119 := n7_; have NB34119_34101 := n8_; clear n0_ n1_ n2_ n3_ n4_ n5_ n6_ n7_ n8_; clear hb hbox hg; have hnb25 := NB34119_34101.out; have hnc25 := NB34101_34119.out; have hcz26_0 : w24.cell? ⟨gb34119, 0, none⟩ = some (.int .i64 0) := (blk_cell BK34119.out 0).trans rfl; have hcz26_1 : w24.cell? ⟨gb34119, 1, none⟩ = some (.int .i64 0) := (blk_cell BK34119.out 1).trans rfl; have hcz26_2 : w24.cell? ⟨gb34119, 2, none⟩ = some (.int .i64 0) := (blk_cell BK34119.out 2).trans rfl; have hcz26_3 : w24.cell? ⟨gb34119, 3, none⟩ = some (.slice none 0 0) := (blk_cell BK34119.out 3).trans rfl; have hfz26_0 := blk_frozen BK34119.out 0; have hfz26_1 := blk_frozen BK34119.out 1; have hfz26_2 := blk_frozen BK34119.out 2; have hfz26_3 := blk_frozen BK34119.out 3; obtain ⟨Ao27, co27, eo27⟩ := Kd.R_slice HO34118.out; subst eo27) | ((with_reducible refine gate_callee (f := 84) rfl ?_); refine goesL_ (some 42) rfl rfl Try.func84 (by kernel_rfl) rfl #[.agg #[.int .i64 t34113, .int .i64 t34114, .int .i64 t34115, .slice Ao27 t34116.length co27], .int .i64 a1, .int .i64 a2, .int .i64 a3] rfl (by (try simp only [List.map_toArray, List.map_cons, List.map_nil]); first | done | rfl | (simp only [List.length_drop, List.length_take]; rfl)) ?_; (with_reducible refine (impl_AheadAfter.calls k t34113 t34114 t34115 _ _ t34116 a1 a2 a3 t34120 t34121 t34122 t34123 _ ?side1 ?side2 A13.out).mono ?_); (case side1 => refine (Kd.R_reads' (e := 27) (base := w.heap.size) (ok := fun k_ => (True ∧ some k_ ≠ (.slice Ao20 t34106.length co20 : Value).ownBlock)) (n := t34116.length) (c := co27) ?_).2.2; exact (by (with_reducible repeat (first | apply Kd.R_alloc | apply Kd.R_drewN | apply Kd.R_drew)); exact (Kd.R_mono (Kd.R_far (p := ⟨gb34119, 3, none⟩) (Kd.R_far (p := ⟨gb34119, 2, none⟩) (Kd.R_far (p := ⟨gb34119, 1, none⟩) (Kd.R_far (p := ⟨gb34119, 0, none⟩) (Kd.R_types HO34118.out BK34119.out (by decide)) (fun _ hk => hk.2) (.int .i64 t34113)) (fun _ hk => hk.2) (.int .i64 t34114)) (fun _ hk => hk.2) (.int .i64 t34115)) (fun _ hk => hk.2) (.slice Ao27 t34116.length co27)) (fun _ h_ => h_.1)))); (case side2 => exact (Kd.R_reads' HO34118.out).2.1); rintro e w28 ⟨rfl, hb⟩; refine ⟨_, rfl, ?_⟩; have n0_ := Aside0.mk (Kd.R_below (by (with_reducible repeat (first | apply Kd.R_alloc | apply Kd.R_drewN | apply Kd.R_drew)); exact (Kd.R_mono (Kd.R_far (p := ⟨gb34119, 3, none⟩) (Kd.R_far (p := ⟨gb34119, 2, none⟩) (Kd.R_far (p := ⟨gb34119, 1, none⟩) (Kd.R_far (p := ⟨gb34119, 0, none⟩) (Kd.R_types HO34108.out BK34119.out (by decide)) (fun _ hk => hk.2) (.int .i64 t34113)) (fun _ hk => hk.2) (.int .i64 t34114)) (fun _ hk => hk.2) (.int .i64 t34115)) (fun _ hk => hk.2) (.slice Ao27 t34116.length co27)) (fun _ h_ => h_.1))) hb); have n1_ := Aside0.mk (Kd.R_below (by (with_reducible repeat (first | apply Kd.R_alloc | apply Kd.R_drewN | apply Kd.R_drew)); exact (Kd.R_mono (Kd.R_far (p := ⟨gb34119, 3, none⟩) (Kd.R_far (p := ⟨gb34119, 2, none⟩) (Kd.R_far (p := ⟨gb34119, 1, none⟩) (Kd.R_far (p := ⟨gb34119, 0, none⟩) (Kd.R_types HO34118.out BK34119.out (by decide)) (fun _ hk => hk.2) (.int .i64 t34113)) (fun _ hk => hk.2) (.int .i64 t34114)) (fun _ hk => hk.2) (.int .i64 t34115)) (fun _ hk => hk.2) (.slice Ao27 t34116.length co27)) (fun _ h_ => h_.1))) hb); have n2_ := Aside0.mk (blk_below (g := gb34101) (o := .cells #[.int .i64 a0_0, .int .i64 a0_1, .int .i64 a0_2, .slice A0_3 l0_3.length c0_3] 24 (0, 0)) (by (with_reducible repeat (first | refine blk_drewN ?_ _ | refine blk_drew ?_ | refine blk_alloc ?_ _)); refine blk_far ?_ NB34101_34119.out _; (with_reducible repeat (first | refine blk_drewN ?_ _ | refine blk_drew ?_ | refine blk_alloc ?_ _)); refine blk_far ?_ NB34101_34119.out _; (with_reducible repeat (first | refine blk_drewN ?_ _ | refine blk_drew ?_ | refine blk_alloc ?_ _)); refine blk_far ?_ NB34101_34119.out _; (with_reducible repeat (first | refine blk_drewN ?_ _ | refine blk_drew ?_ | refine blk_alloc ?_ _)); refine blk_far ?_ NB34101_34119.out _; (with_reducible repeat (first | refine blk_drewN ?_ _ | refine blk_drew ?_ | refine blk_alloc ?_ _)); exact BK34101.out) hb); have n3_ := Aside0.mk (blk_below (g := gb34119) (o := .cells #[.int .i64 t34113, .int .i64 t34114, .int .i64 t34115, .slice Ao27 t34116.length co27] 32 (0, 0)) (by (with_reducible repeat (first | refine blk_drewN ?_ _ | refine blk_drew ?_ | refine blk_alloc ?_ _)); refine blk_put (cs := #[.int .i64 t34113, .int .i64 t34114, .int .i64 t34115, .slice none 0 0]) ?_ 3 _ rfl; (with_reducible repeat (first | refine blk_drewN ?_ _ | refine blk_drew ?_ | refine blk_alloc ?_ _)); refine blk_put (cs := #[.int .i64 t34113, .int .i64 t34114, .int .i64 0, .slice none 0 0]) ?_ 2 _ rfl; (with_reducible repeat (first | refine blk_drewN ?_ _ | refine blk_drew ?_ | refine blk_alloc ?_ _)); refine blk_put (cs := #[.int .i64 t34113, .int .i64 0, .int .i64 0, .slice none 0 0]) ?_ 1 _ rfl; (with_reducible repeat (first | refine blk_drewN ?_ _ | refine blk_drew ?_ | refine blk_alloc ?_ _)); refine blk_put (cs := #[.int .i64 0, .int .i64 0, .int .i64 0, .slice none 0 0]) ?_ 0 _ rfl; (with_reducible repeat (first | refine blk_drewN ?_ _ | refine blk_drew ?_ | refine blk_alloc ?_ _)); exact BK34119.out) hb); have n4_ := Aside0.mk (below_step (by repeat (first | (with_reducible first | exact HB.out | apply below_alloc | apply pw_below_drewN | apply below_drew1 | refine below_set ?_ GE34101.out | refine below_set ?_ GE34119.out) | exact HB.out)) hb); clear HO34108; clear HO34118; clear BK34101; clear BK34119; clear HB; have HO34108 := n0_; have HO34118 := n1_; have BK34101 := n2_; have BK34119 := n3_; have HB := n4_; clear n0_ n1_ n2_ n3_ n4_; (try clear hb); (try clear hb2); (try clear hk); (try clear hi)))
    (try simp only [Act.put, List.setIfInBounds_toArray, List.set_cons_zero, List.set_cons_succ])
    go_cut [64] (fun v64 wc => ∃ (kq : Nat) (x64_13 : Bool), v64 = .bool x64_13 ∧ Aside0 (laws_FnExactAheadAfter.j0 kq x64_13 a0_0 a0_1 a0_2 l0_3 t34113 t34114 t34115 t34116 = some r) ∧ Aside0 (kq ≤ k) ∧ Aside0 (Kd.R k27 27 wc w.heap.size (fun _ => True) (.slice Ao27 t34116.length co27) t34116) ∧ Aside0 (wc.heap[gb34101]? = some (.cells #[.int .i64 a0_0, .int .i64 a0_1, .int .i64 a0_2, (.slice A0_3 l0_3.length c0_3)] 24 (0, 0))) ∧ Aside0 (wc.heap[gb34119]? = some (.cells #[.int .i64 t34113, .int .i64 t34114, .int .i64 t34115, (.slice Ao27 t34116.length co27)] 32 (0, 0))) ∧ Aside0 (Below w.heap.size w wc))
    case first =>
      have H := HC14.out
      clear HC14
      by_cases c29 : t34120 = t34109
      · rw [if_pos c29] at H
        have c29b0 : (t34120 == t34109) = true := beq_iff_eq.mpr c29
        have c29b1 : (t34120 != t34109) = false := bne_eq_false_iff_eq.mpr c29
        clear c29
        (first | rw [c29b0] | (simp only [i64_w, i32_w]; rw [c29b0]) | skip)
        by_cases c30 : t34121 = t34110
        · rw [if_pos c30] at H
          have c30b0 : (t34121 == t34110) = true := beq_iff_eq.mpr c30
          have c30b1 : (t34121 != t34110) = false := bne_eq_false_iff_eq.mpr c30
          clear c30
          by_cases c31 : t34122 = t34111
          · rw [if_pos c31] at H
            have c31b0 : (t34122 == t34111) = true := beq_iff_eq.mpr c31
            have c31b1 : (t34122 != t34111) = false := bne_eq_false_iff_eq.mpr c31
            clear c31
            have H' := Aside0.mk H
            clear H
            go_wp2
            go_meet
            case rel => exact ⟨_, ((t34123 != t34112)), (by first | rfl | (simp; done) | (simp [*]; done)), H', ⟨by first | omega | exact Nat.le_refl _⟩, ⟨by (with_reducible repeat (first | apply Kd.R_alloc | apply Kd.R_drewN | apply Kd.R_drew)); exact Kd.R_mono HO34118.out (fun _ hk => trivial)⟩, ⟨by (with_reducible repeat (first | refine blk_drewN ?_ _ | refine blk_drew ?_ | refine blk_alloc ?_ _)); exact BK34101.out⟩, ⟨by (with_reducible repeat (first | refine blk_drewN ?_ _ | refine blk_drew ?_ | refine blk_alloc ?_ _)); exact BK34119.out⟩, ⟨by repeat (first | (with_reducible first | exact HB.out | apply below_alloc | apply pw_below_drewN | apply below_drew1 | refine below_set ?_ GE34101.out | refine below_set ?_ GE34119.out) | exact HB.out)⟩⟩
          · rw [if_neg c31] at H
            have c31b0 : (t34122 == t34111) = false := beq_eq_false_iff_ne.mpr c31
            have c31b1 : (t34122 != t34111) = true := bne_iff_ne.mpr c31
            have H' := Aside0.mk H
            clear H
            go_wp2
            go_meet
            case rel => exact ⟨_, (true), (by first | rfl | (simp; done) | (simp [*]; done)), H', ⟨by first | omega | exact Nat.le_refl _⟩, ⟨by (with_reducible repeat (first | apply Kd.R_alloc | apply Kd.R_drewN | apply Kd.R_drew)); exact Kd.R_mono HO34118.out (fun _ hk => trivial)⟩, ⟨by (with_reducible repeat (first | refine blk_drewN ?_ _ | refine blk_drew ?_ | refine blk_alloc ?_ _)); exact BK34101.out⟩, ⟨by (with_reducible repeat (first | refine blk_drewN ?_ _ | refine blk_drew ?_ | refine blk_alloc ?_ _)); exact BK34119.out⟩, ⟨by repeat (first | (with_reducible first | exact HB.out | apply below_alloc | apply pw_below_drewN | apply below_drew1 | refine below_set ?_ GE34101.out | refine below_set ?_ GE34119.out) | exact HB.out)⟩⟩
        · rw [if_neg c30] at H
          have c30b0 : (t34121 == t34110) = false := beq_eq_false_iff_ne.mpr c30
          have c30b1 : (t34121 != t34110) = true := bne_iff_ne.mpr c30
          have H' := Aside0.mk H
          clear H
          go_wp2
          go_meet
          case rel => exact ⟨_, (true), (by first | rfl | (simp; done) | (simp [*]; done)), H', ⟨by first | omega | exact Nat.le_refl _⟩, ⟨by (with_reducible repeat (first | apply Kd.R_alloc | apply Kd.R_drewN | apply Kd.R_drew)); exact Kd.R_mono HO34118.out (fun _ hk => trivial)⟩, ⟨by (with_reducible repeat (first | refine blk_drewN ?_ _ | refine blk_drew ?_ | refine blk_alloc ?_ _)); exact BK34101.out⟩, ⟨by (with_reducible repeat (first | refine blk_drewN ?_ _ | refine blk_drew ?_ | refine blk_alloc ?_ _)); exact BK34119.out⟩, ⟨by repeat (first | (with_reducible first | exact HB.out | apply below_alloc | apply pw_below_drewN | apply below_drew1 | refine below_set ?_ GE34101.out | refine below_set ?_ GE34119.out) | exact HB.out)⟩⟩
      · rw [if_neg c29] at H
        have c29b0 : (t34120 == t34109) = false := beq_eq_false_iff_ne.mpr c29
        have c29b1 : (t34120 != t34109) = true := bne_iff_ne.mpr c29
        (first | rw [c29b0] | (simp only [i64_w, i32_w]; rw [c29b0]) | skip)
        have H' := Aside0.mk H
        clear H
        go_wp2
        go_meet
        case rel => exact ⟨_, (true), (by first | rfl | (simp; done) | (simp [*]; done)), H', ⟨by first | omega | exact Nat.le_refl _⟩, ⟨by (with_reducible repeat (first | apply Kd.R_alloc | apply Kd.R_drewN | apply Kd.R_drew)); exact Kd.R_mono HO34118.out (fun _ hk => trivial)⟩, ⟨by (with_reducible repeat (first | refine blk_drewN ?_ _ | refine blk_drew ?_ | refine blk_alloc ?_ _)); exact BK34101.out⟩, ⟨by (with_reducible repeat (first | refine blk_drewN ?_ _ | refine blk_drew ?_ | refine blk_alloc ?_ _)); exact BK34119.out⟩, ⟨by repeat (first | (with_reducible first | exact HB.out | apply below_alloc | apply pw_below_drewN | apply below_drew1 | refine below_set ?_ GE34101.out | refine below_set ?_ GE34119.out) | exact HB.out)⟩⟩
    case rest =>
      clear HC14
      try clear c1
      try clear c2
      try clear p2
      try clear c3
      try clear c6
      try clear c6b0
      try clear c8
      try clear c17
      try clear c25
      try clear c29
      try clear c29b0
      try clear c29b1
      try clear c30
      try clear c30b0
      try clear c30b1
      try clear c31
      try clear c31b0
      try clear c31b1
      try clear hcz16_0
      try clear hcz16_1
      try clear hcz16_2
      try clear hcz16_3
      try clear hcz18_0
      try clear hcz18_1
      try clear hcz18_2
      try clear hcz18_3
      try clear hcz22_0
      try clear hcz22_1
      try clear hcz22_2
      try clear hcz22_3
      try clear hcz26_0
      try clear hcz26_1
      try clear hcz26_2
      try clear hcz26_3
      try clear hcz8_0
      try clear hcz8_1
      try clear hcz8_2
      try clear hcz8_3
      try clear hfz16_0
      try clear hfz16_1
      try clear hfz16_2
      try clear hfz16_3
      try clear hfz18_0
      try clear hfz18_1
      try clear hfz18_2
      try clear hfz18_3
      try clear hfz22_0
      try clear hfz22_1
      try clear hfz22_2
      try clear hfz22_3
      try clear hfz26_0
      try clear hfz26_1
      try clear hfz26_2
      try clear hfz26_3
      try clear hfz8_0
      try clear hfz8_1
      try clear hfz8_2
      try clear hfz8_3
      obtain ⟨kq, x64_13, rfl, HA, HJ13, HO_34120003, BK34101, BK34119, HB⟩ := hcut
      cases kq with
      | zero => exact absurd HA.out (by simp [laws_FnExactAheadAfter.j0])
      | succ kj13 =>
        have H := HA.out
        clear HA
        simp only [laws_FnExactAheadAfter.j0] at H
        by_cases c32 : x64_13 = true
        · subst c32
          have H1 : (some false) = some r := by rw [if_pos rfl] at H; exact H
          clear H
          have H := H1
          clear H1
          obtain rfl := Option.some.inj H
          go_wp2
          go_ret
          exact ⟨by first | rfl | (simp [errW_none, errW_some] <;> rfl) | (simp [*, errW_none, errW_some] <;> rfl), by repeat (first | (with_reducible first | exact HB.out | apply below_alloc | apply pw_below_drewN | apply below_drew1 | refine below_set ?_ GE34101.out | refine below_set ?_ GE34119.out) | exact HB.out)⟩
        · replace c32 := Bool.eq_false_iff.mpr c32
          subst c32
          have H1 : ((laws_toBoard.f kj13 a0_0 a0_1 a0_2 l0_3).bind fun bt34124 => ((laws_eqBoard.f kj13 t34113 t34114 t34115 t34116 bt34124.1 bt34124.2.1 bt34124.2.2.1 bt34124.2.2.2).bind fun t34130 => (if t34130 = true then (some true) else (some false)))) = some r := by rw [if_neg (show ¬ (false = true) by decide)] at H; exact H
          clear H
          have H := H1
          clear H1
          replace H := Option.bind_eq_some_iff.mp H
          obtain ⟨⟨t34124, t34125, t34126, t34127⟩, A330, H⟩ := H
          replace H : ((laws_eqBoard.f kj13 t34113 t34114 t34115 t34116 t34124 t34125 t34126 t34127).bind fun t34130 => (if t34130 = true then (some true) else (some false))) = some r := H
          have A33 := Aside0.mk A330
          clear A330
          replace H := Option.bind_eq_some_iff.mp H
          obtain ⟨t34130, A340, H⟩ := H
          replace H : (if t34130 = true then (some true) else (some false)) = some r := H
          have A34 := Aside0.mk A340
          clear A340
          by_cases c35 : t34130 = true
          · subst c35
            have H1 : (some true) = some r := by rw [if_pos rfl] at H; exact H
            clear H
            have H := H1
            clear H1
            obtain rfl := Option.some.inj H
            try go_wp2
            have n0_ := Aside0.mk (Kd.R_drew HO_34120003.out)
            have n1_ := Aside0.mk (blk_drew BK34101.out)
            have n2_ := Aside0.mk (blk_drew BK34119.out)
            have n3_ := Aside0.mk (below_drew1 HB.out)
            clear HO_34120003
            clear BK34101
            clear BK34119
            clear HB
            have HO_34120003 := n0_
            have BK34101 := n1_
            have BK34119 := n2_
            have HB := n3_
            clear n0_ n1_ n2_ n3_
            refine start_ (n := 5) (S := fun w' => w'.cell? ⟨gb34119, 0, none⟩ = some (.int .i64 t34113) ∧ w'.cell? ⟨gb34119, 1, none⟩ = some (.int .i64 t34114) ∧ w'.cell? ⟨gb34119, 2, none⟩ = some (.int .i64 t34115) ∧ w'.cell? ⟨gb34119, 3, none⟩ = some (.slice Ao27 t34116.length co27) ∧ w'.cell? ⟨gb34101, 0, none⟩ = some (.int .i64 a0_0) ∧ w'.cell? ⟨gb34101, 1, none⟩ = some (.int .i64 a0_1) ∧ w'.cell? ⟨gb34101, 2, none⟩ = some (.int .i64 a0_2) ∧ w'.cell? ⟨gb34101, 3, none⟩ = some (.slice A0_3 l0_3.length c0_3)) (ds := []) #[false, false, false, false, false] (by kernel_rfl) rfl rfl ⟨(blk_cell BK34119.out 0).trans rfl, (blk_cell BK34119.out 1).trans rfl, (blk_cell BK34119.out 2).trans rfl, (blk_cell BK34119.out 3).trans rfl, (blk_cell BK34101.out 0).trans rfl, (blk_cell BK34101.out 1).trans rfl, (blk_cell BK34101.out 2).trans rfl, (blk_cell BK34101.out 3).trans rfl⟩ (fun hHeld => ?_)
            generalize wc.drew = w36 at HO_34120003 BK34101 BK34119 HB hHeld ⊢
            refine take_ (i := 0) (N := some 65) (v := ?_) (a' := ?_) #[true, false, false, false, false] rfl rfl (by kernel_rfl) (fun _ _ _ h => h) (Or.inl ⟨by rfl, ?_⟩) hHeld ?_ ?_
            rotate_left
            · rintro w' ⟨s0, s1, s2, s3, s4, s5, s6, s7⟩
              go_simp
              with_reducible rfl
            rotate_left
            · simp only [Act.put, List.setIfInBounds_toArray, List.set_cons_zero, List.set_cons_succ, i64_w, i32_w]
              rfl
            refine take_ (i := 1) (N := some 66) (v := ?_) (a' := ?_) #[true, true, false, false, false] rfl rfl (by kernel_rfl) (fun _ _ _ h => h) (Or.inl ⟨by rfl, ?_⟩) hHeld ?_ ?_
            rotate_left
            · rintro w' ⟨s0, s1, s2, s3, s4, s5, s6, s7⟩
              go_simp
              with_reducible rfl
            rotate_left
            · simp only [Act.put, List.setIfInBounds_toArray, List.set_cons_zero, List.set_cons_succ, i64_w, i32_w]
              rfl
            refine one_ (i := 2) (N := some 67) #[true, true, true, false, false] rfl rfl (by kernel_rfl) (by decide) (fun K hK => ?_)
            refine goes_ Try.func39 (by kernel_rfl) rfl #[.agg #[.int .i64 a0_0, .int .i64 a0_1, .int .i64 a0_2, .slice A0_3 l0_3.length c0_3]] (by rfl) rfl rfl (by (try simp only [List.map_toArray, List.map_cons, List.map_nil]); first | done | rfl | (simp only [List.length_drop, List.length_take]; rfl)) ?_
            with_reducible refine (laws_toBoard.calls kj13 a0_0 a0_1 a0_2 _ _ l0_3 t34124 t34125 t34126 t34127 _ ?side1 ?side2 A33.out).mono ?_
            (case side1 => repeat (first | exact (Kd.C_below HR0_3.out HB.out) | (with_reducible refine Kd.C_alloc ?_ _) | (with_reducible refine Kd.C_drewN ?_ _) | (with_reducible refine Kd.C_drew ?_)))
            (case side2 => exact HC0_3.out)
            rintro e w37 ⟨v34128, rfl, ho0, hb⟩
            refine ⟨_, rfl, ?_⟩
            have n0_ := Aside0.mk (Kd.R_elder' (by (with_reducible repeat (first | apply Kd.R_alloc | apply Kd.R_drewN | apply Kd.R_drew)); exact HO_34120003.out) (Kd.R_base ho0) hb)
            have n1_ := Aside0.mk (Kd.R_lower (Kd.R_new' ho0 (Kd.R_lt (by (with_reducible repeat (first | apply Kd.R_alloc | apply Kd.R_drewN | apply Kd.R_drew)); exact HO_34120003.out))) (below_size (by repeat (first | (with_reducible first | exact HB.out | apply below_alloc | apply pw_below_drewN | apply below_drew1 | refine below_set ?_ GE34101.out | refine below_set ?_ GE34119.out) | exact HB.out))))
            have n2_ := Aside0.mk (blk_below (g := gb34101) (o := .cells #[.int .i64 a0_0, .int .i64 a0_1, .int .i64 a0_2, .slice A0_3 l0_3.length c0_3] 24 (0, 0)) (by (with_reducible repeat (first | refine blk_drewN ?_ _ | refine blk_drew ?_ | refine blk_alloc ?_ _)); exact BK34101.out) hb)
            have n3_ := Aside0.mk (blk_below (g := gb34119) (o := .cells #[.int .i64 t34113, .int .i64 t34114, .int .i64 t34115, .slice Ao27 t34116.length co27] 32 (0, 0)) (by (with_reducible repeat (first | refine blk_drewN ?_ _ | refine blk_drew ?_ | refine blk_alloc ?_ _)); exact BK34119.out) hb)
            have n4_ := Aside0.mk (below_step (by repeat (first | (with_reducible first | exact HB.out | apply below_alloc | apply pw_below_drewN | apply below_drew1 | refine below_set ?_ GE34101.out | refine below_set ?_ GE34119.out) | exact HB.out)) hb)
            clear HO_34120003
            clear BK34101
            clear BK34119
            clear HB
            have HO_34120003 := n0_
            have HO34129 := n1_
            have BK34101 := n2_
            have BK34119 := n3_
            have HB := n4_
            clear n0_ n1_ n2_ n3_ n4_
            (try clear hb)
            (try clear hb2)
            (try clear hk)
            (try clear hi)
            (try clear ho0)
            obtain ⟨Ao38, co38, eo38⟩ := Kd.R_slice HO34129.out
            (first | subst eo38 | (injection eo38 with f1_ f2_ f3_; have f4_ := f1_.symm; have f5_ := f3_.symm; clear f1_ f2_ f3_; subst f4_; subst f5_))
            refine hK.out _ _ ⟨(blk_cell BK34119.out 0).trans rfl, (blk_cell BK34119.out 1).trans rfl, (blk_cell BK34119.out 2).trans rfl, (blk_cell BK34119.out 3).trans rfl, (blk_cell BK34101.out 0).trans rfl, (blk_cell BK34101.out 1).trans rfl, (blk_cell BK34101.out 2).trans rfl, (blk_cell BK34101.out 3).trans rfl⟩ (fun hHeld => ?_)
            clear hK K
            refine norm_ (a' := ?_) ?_ ?_
            rotate_left
            · show Act.put _ (some 67) _ = _
              simp only [Act.put, List.setIfInBounds_toArray, List.set_cons_zero, List.set_cons_succ, i64_w, i32_w]
              rfl
            refine one_ (i := 3) (N := some 68) #[true, true, true, true, false] rfl rfl (by kernel_rfl) (by decide) (fun K hK => ?_)
            refine goes_ Try.func42 (by kernel_rfl) rfl #[.agg #[.int .i64 t34113, .int .i64 t34114, .int .i64 t34115, .slice Ao27 t34116.length co27], .agg #[.int .i64 t34124, .int .i64 t34125, .int .i64 t34126, .slice Ao38 t34127.length co38]] (by rfl) rfl rfl (by (try simp only [List.map_toArray, List.map_cons, List.map_nil]); first | done | rfl | (simp only [List.length_drop, List.length_take]; rfl)) ?_
            with_reducible refine (laws_eqBoard.calls kj13 t34113 t34114 t34115 _ _ t34116 t34124 t34125 t34126 _ _ t34127 true _ ?side1 ?side2 ?side3 ?side4 A34.out).mono ?_
            (case side1 => repeat (first | exact (Kd.R_reads' HO_34120003.out).2.2 | (with_reducible refine Kd.C_alloc ?_ _) | (with_reducible refine Kd.C_drewN ?_ _) | (with_reducible refine Kd.C_drew ?_)))
            (case side2 => exact (Kd.R_reads' HO_34120003.out).2.1)
            (case side3 => repeat (first | exact (Kd.R_reads' HO34129.out).2.2 | (with_reducible refine Kd.C_alloc ?_ _) | (with_reducible refine Kd.C_drewN ?_ _) | (with_reducible refine Kd.C_drew ?_)))
            (case side4 => exact (Kd.R_reads' HO34129.out).2.1)
            rintro e w39 ⟨rfl, hb⟩
            refine ⟨_, rfl, ?_⟩
            have n0_ := Aside0.mk (Kd.R_below (by (with_reducible repeat (first | apply Kd.R_alloc | apply Kd.R_drewN | apply Kd.R_drew)); exact HO_34120003.out) hb)
            have n1_ := Aside0.mk (Kd.R_below (by (with_reducible repeat (first | apply Kd.R_alloc | apply Kd.R_drewN | apply Kd.R_drew)); exact HO34129.out) hb)
            have n2_ := Aside0.mk (blk_below (g := gb34101) (o := .cells #[.int .i64 a0_0, .int .i64 a0_1, .int .i64 a0_2, .slice A0_3 l0_3.length c0_3] 24 (0, 0)) (by (with_reducible repeat (first | refine blk_drewN ?_ _ | refine blk_drew ?_ | refine blk_alloc ?_ _)); exact BK34101.out) hb)
            have n3_ := Aside0.mk (blk_below (g := gb34119) (o := .cells #[.int .i64 t34113, .int .i64 t34114, .int .i64 t34115, .slice Ao27 t34116.length co27] 32 (0, 0)) (by (with_reducible repeat (first | refine blk_drewN ?_ _ | refine blk_drew ?_ | refine blk_alloc ?_ _)); exact BK34119.out) hb)
            have n4_ := Aside0.mk (below_step (by repeat (first | (with_reducible first | exact HB.out | apply below_alloc | apply pw_below_drewN | apply below_drew1 | refine below_set ?_ GE34101.out | refine below_set ?_ GE34119.out) | exact HB.out)) hb)
            clear HO_34120003
            clear HO34129
            clear BK34101
            clear BK34119
            clear HB
            have HO_34120003 := n0_
            have HO34129 := n1_
            have BK34101 := n2_
            have BK34119 := n3_
            have HB := n4_
            clear n0_ n1_ n2_ n3_ n4_
            (try clear hb)
            (try clear hb2)
            (try clear hk)
            (try clear hi)
            refine hK.out _ _ ⟨(blk_cell BK34119.out 0).trans rfl, (blk_cell BK34119.out 1).trans rfl, (blk_cell BK34119.out 2).trans rfl, (blk_cell BK34119.out 3).trans rfl, (blk_cell BK34101.out 0).trans rfl, (blk_cell BK34101.out 1).trans rfl, (blk_cell BK34101.out 2).trans rfl, (blk_cell BK34101.out 3).trans rfl⟩ (fun hHeld => ?_)
            clear hK K
            refine norm_ (a' := ?_) ?_ ?_
            rotate_left
            · show Act.put _ (some 68) _ = _
              simp only [Act.put, List.setIfInBounds_toArray, List.set_cons_zero, List.set_cons_succ, i64_w, i32_w]
              rfl
            refine pure_ (i := 4) (N := some 69) (v := ?_) (a' := ?_) #[true, true, true, true, true] rfl rfl (by kernel_rfl) (fun _ _ _ h => h) (Or.inl ⟨by rfl, ?_⟩) ?_ ?_
            rotate_left
            · intro w'
              go_simp
              with_reducible rfl
            rotate_left
            · simp only [Act.put, List.setIfInBounds_toArray, List.set_cons_zero, List.set_cons_succ, i64_w, i32_w]
              rfl
            refine done_ (by kernel_rfl) ?_
            try go_wp2
            go_ret
            exact ⟨by first | rfl | (simp [errW_none, errW_some] <;> rfl) | (simp [*, errW_none, errW_some] <;> rfl), by repeat (first | (with_reducible first | exact HB.out | apply below_alloc | apply pw_below_drewN | apply below_drew1 | refine below_set ?_ GE34101.out | refine below_set ?_ GE34119.out) | exact HB.out)⟩
          · replace c35 := Bool.eq_false_iff.mpr c35
            subst c35
            have H1 : (some false) = some r := by rw [if_neg (show ¬ (false = true) by decide)] at H; exact H
            clear H
            have H := H1
            clear H1
            obtain rfl := Option.some.inj H
            try go_wp2
            have n0_ := Aside0.mk (Kd.R_drew HO_34120003.out)
            have n1_ := Aside0.mk (blk_drew BK34101.out)
            have n2_ := Aside0.mk (blk_drew BK34119.out)
            have n3_ := Aside0.mk (below_drew1 HB.out)
            clear HO_34120003
            clear BK34101
            clear BK34119
            clear HB
            have HO_34120003 := n0_
            have BK34101 := n1_
            have BK34119 := n2_
            have HB := n3_
            clear n0_ n1_ n2_ n3_
            refine start_ (n := 5) (S := fun w' => w'.cell? ⟨gb34119, 0, none⟩ = some (.int .i64 t34113) ∧ w'.cell? ⟨gb34119, 1, none⟩ = some (.int .i64 t34114) ∧ w'.cell? ⟨gb34119, 2, none⟩ = some (.int .i64 t34115) ∧ w'.cell? ⟨gb34119, 3, none⟩ = some (.slice Ao27 t34116.length co27) ∧ w'.cell? ⟨gb34101, 0, none⟩ = some (.int .i64 a0_0) ∧ w'.cell? ⟨gb34101, 1, none⟩ = some (.int .i64 a0_1) ∧ w'.cell? ⟨gb34101, 2, none⟩ = some (.int .i64 a0_2) ∧ w'.cell? ⟨gb34101, 3, none⟩ = some (.slice A0_3 l0_3.length c0_3)) (ds := []) #[false, false, false, false, false] (by kernel_rfl) rfl rfl ⟨(blk_cell BK34119.out 0).trans rfl, (blk_cell BK34119.out 1).trans rfl, (blk_cell BK34119.out 2).trans rfl, (blk_cell BK34119.out 3).trans rfl, (blk_cell BK34101.out 0).trans rfl, (blk_cell BK34101.out 1).trans rfl, (blk_cell BK34101.out 2).trans rfl, (blk_cell BK34101.out 3).trans rfl⟩ (fun hHeld => ?_)
            generalize wc.drew = w40 at HO_34120003 BK34101 BK34119 HB hHeld ⊢
            refine take_ (i := 0) (N := some 65) (v := ?_) (a' := ?_) #[true, false, false, false, false] rfl rfl (by kernel_rfl) (fun _ _ _ h => h) (Or.inl ⟨by rfl, ?_⟩) hHeld ?_ ?_
            rotate_left
            · rintro w' ⟨s0, s1, s2, s3, s4, s5, s6, s7⟩
              go_simp
              with_reducible rfl
            rotate_left
            · simp only [Act.put, List.setIfInBounds_toArray, List.set_cons_zero, List.set_cons_succ, i64_w, i32_w]
              rfl
            refine take_ (i := 1) (N := some 66) (v := ?_) (a' := ?_) #[true, true, false, false, false] rfl rfl (by kernel_rfl) (fun _ _ _ h => h) (Or.inl ⟨by rfl, ?_⟩) hHeld ?_ ?_
            rotate_left
            · rintro w' ⟨s0, s1, s2, s3, s4, s5, s6, s7⟩
              go_simp
              with_reducible rfl
            rotate_left
            · simp only [Act.put, List.setIfInBounds_toArray, List.set_cons_zero, List.set_cons_succ, i64_w, i32_w]
              rfl
            refine one_ (i := 2) (N := some 67) #[true, true, true, false, false] rfl rfl (by kernel_rfl) (by decide) (fun K hK => ?_)
            refine goes_ Try.func39 (by kernel_rfl) rfl #[.agg #[.int .i64 a0_0, .int .i64 a0_1, .int .i64 a0_2, .slice A0_3 l0_3.length c0_3]] (by rfl) rfl rfl (by (try simp only [List.map_toArray, List.map_cons, List.map_nil]); first | done | rfl | (simp only [List.length_drop, List.length_take]; rfl)) ?_
            with_reducible refine (laws_toBoard.calls kj13 a0_0 a0_1 a0_2 _ _ l0_3 t34124 t34125 t34126 t34127 _ ?side1 ?side2 A33.out).mono ?_
            (case side1 => repeat (first | exact (Kd.C_below HR0_3.out HB.out) | (with_reducible refine Kd.C_alloc ?_ _) | (with_reducible refine Kd.C_drewN ?_ _) | (with_reducible refine Kd.C_drew ?_)))
            (case side2 => exact HC0_3.out)
            rintro e w41 ⟨v34128, rfl, ho0, hb⟩
            refine ⟨_, rfl, ?_⟩
            have n0_ := Aside0.mk (Kd.R_elder' (by (with_reducible repeat (first | apply Kd.R_alloc | apply Kd.R_drewN | apply Kd.R_drew)); exact HO_34120003.out) (Kd.R_base ho0) hb)
            have n1_ := Aside0.mk (Kd.R_lower (Kd.R_new' ho0 (Kd.R_lt (by (with_reducible repeat (first | apply Kd.R_alloc | apply Kd.R_drewN | apply Kd.R_drew)); exact HO_34120003.out))) (below_size (by repeat (first | (with_reducible first | exact HB.out | apply below_alloc | apply pw_below_drewN | apply below_drew1 | refine below_set ?_ GE34101.out | refine below_set ?_ GE34119.out) | exact HB.out))))
            have n2_ := Aside0.mk (blk_below (g := gb34101) (o := .cells #[.int .i64 a0_0, .int .i64 a0_1, .int .i64 a0_2, .slice A0_3 l0_3.length c0_3] 24 (0, 0)) (by (with_reducible repeat (first | refine blk_drewN ?_ _ | refine blk_drew ?_ | refine blk_alloc ?_ _)); exact BK34101.out) hb)
            have n3_ := Aside0.mk (blk_below (g := gb34119) (o := .cells #[.int .i64 t34113, .int .i64 t34114, .int .i64 t34115, .slice Ao27 t34116.length co27] 32 (0, 0)) (by (with_reducible repeat (first | refine blk_drewN ?_ _ | refine blk_drew ?_ | refine blk_alloc ?_ _)); exact BK34119.out) hb)
            have n4_ := Aside0.mk (below_step (by repeat (first | (with_reducible first | exact HB.out | apply below_alloc | apply pw_below_drewN | apply below_drew1 | refine below_set ?_ GE34101.out | refine below_set ?_ GE34119.out) | exact HB.out)) hb)
            clear HO_34120003
            clear BK34101
            clear BK34119
            clear HB
            have HO_34120003 := n0_
            have HO34129 := n1_
            have BK34101 := n2_
            have BK34119 := n3_
            have HB := n4_
            clear n0_ n1_ n2_ n3_ n4_
            (try clear hb)
            (try clear hb2)
            (try clear hk)
            (try clear hi)
            (try clear ho0)
            obtain ⟨Ao42, co42, eo42⟩ := Kd.R_slice HO34129.out
            (first | subst eo42 | (injection eo42 with f1_ f2_ f3_; have f4_ := f1_.symm; have f5_ := f3_.symm; clear f1_ f2_ f3_; subst f4_; subst f5_))
            refine hK.out _ _ ⟨(blk_cell BK34119.out 0).trans rfl, (blk_cell BK34119.out 1).trans rfl, (blk_cell BK34119.out 2).trans rfl, (blk_cell BK34119.out 3).trans rfl, (blk_cell BK34101.out 0).trans rfl, (blk_cell BK34101.out 1).trans rfl, (blk_cell BK34101.out 2).trans rfl, (blk_cell BK34101.out 3).trans rfl⟩ (fun hHeld => ?_)
            clear hK K
            refine norm_ (a' := ?_) ?_ ?_
            rotate_left
            · show Act.put _ (some 67) _ = _
              simp only [Act.put, List.setIfInBounds_toArray, List.set_cons_zero, List.set_cons_succ, i64_w, i32_w]
              rfl
            refine one_ (i := 3) (N := some 68) #[true, true, true, true, false] rfl rfl (by kernel_rfl) (by decide) (fun K hK => ?_)
            refine goes_ Try.func42 (by kernel_rfl) rfl #[.agg #[.int .i64 t34113, .int .i64 t34114, .int .i64 t34115, .slice Ao27 t34116.length co27], .agg #[.int .i64 t34124, .int .i64 t34125, .int .i64 t34126, .slice Ao42 t34127.length co42]] (by rfl) rfl rfl (by (try simp only [List.map_toArray, List.map_cons, List.map_nil]); first | done | rfl | (simp only [List.length_drop, List.length_take]; rfl)) ?_
            with_reducible refine (laws_eqBoard.calls kj13 t34113 t34114 t34115 _ _ t34116 t34124 t34125 t34126 _ _ t34127 false _ ?side1 ?side2 ?side3 ?side4 A34.out).mono ?_
            (case side1 => repeat (first | exact (Kd.R_reads' HO_34120003.out).2.2 | (with_reducible refine Kd.C_alloc ?_ _) | (with_reducible refine Kd.C_drewN ?_ _) | (with_reducible refine Kd.C_drew ?_)))
            (case side2 => exact (Kd.R_reads' HO_34120003.out).2.1)
            (case side3 => repeat (first | exact (Kd.R_reads' HO34129.out).2.2 | (with_reducible refine Kd.C_alloc ?_ _) | (with_reducible refine Kd.C_drewN ?_ _) | (with_reducible refine Kd.C_drew ?_)))
            (case side4 => exact (Kd.R_reads' HO34129.out).2.1)
            rintro e w43 ⟨rfl, hb⟩
            refine ⟨_, rfl, ?_⟩
            have n0_ := Aside0.mk (Kd.R_below (by (with_reducible repeat (first | apply Kd.R_alloc | apply Kd.R_drewN | apply Kd.R_drew)); exact HO_34120003.out) hb)
            have n1_ := Aside0.mk (Kd.R_below (by (with_reducible repeat (first | apply Kd.R_alloc | apply Kd.R_drewN | apply Kd.R_drew)); exact HO34129.out) hb)
            have n2_ := Aside0.mk (blk_below (g := gb34101) (o := .cells #[.int .i64 a0_0, .int .i64 a0_1, .int .i64 a0_2, .slice A0_3 l0_3.length c0_3] 24 (0, 0)) (by (with_reducible repeat (first | refine blk_drewN ?_ _ | refine blk_drew ?_ | refine blk_alloc ?_ _)); exact BK34101.out) hb)
            have n3_ := Aside0.mk (blk_below (g := gb34119) (o := .cells #[.int .i64 t34113, .int .i64 t34114, .int .i64 t34115, .slice Ao27 t34116.length co27] 32 (0, 0)) (by (with_reducible repeat (first | refine blk_drewN ?_ _ | refine blk_drew ?_ | refine blk_alloc ?_ _)); exact BK34119.out) hb)
            have n4_ := Aside0.mk (below_step (by repeat (first | (with_reducible first | exact HB.out | apply below_alloc | apply pw_below_drewN | apply below_drew1 | refine below_set ?_ GE34101.out | refine below_set ?_ GE34119.out) | exact HB.out)) hb)
            clear HO_34120003
            clear HO34129
            clear BK34101
            clear BK34119
            clear HB
            have HO_34120003 := n0_
            have HO34129 := n1_
            have BK34101 := n2_
            have BK34119 := n3_
            have HB := n4_
            clear n0_ n1_ n2_ n3_ n4_
            (try clear hb)
            (try clear hb2)
            (try clear hk)
            (try clear hi)
            refine hK.out _ _ ⟨(blk_cell BK34119.out 0).trans rfl, (blk_cell BK34119.out 1).trans rfl, (blk_cell BK34119.out 2).trans rfl, (blk_cell BK34119.out 3).trans rfl, (blk_cell BK34101.out 0).trans rfl, (blk_cell BK34101.out 1).trans rfl, (blk_cell BK34101.out 2).trans rfl, (blk_cell BK34101.out 3).trans rfl⟩ (fun hHeld => ?_)
            clear hK K
            refine norm_ (a' := ?_) ?_ ?_
            rotate_left
            · show Act.put _ (some 68) _ = _
              simp only [Act.put, List.setIfInBounds_toArray, List.set_cons_zero, List.set_cons_succ, i64_w, i32_w]
              rfl
            refine pure_ (i := 4) (N := some 69) (v := ?_) (a' := ?_) #[true, true, true, true, true] rfl rfl (by kernel_rfl) (fun _ _ _ h => h) (Or.inl ⟨by rfl, ?_⟩) ?_ ?_
            rotate_left
            · intro w'
              go_simp
              with_reducible rfl
            rotate_left
            · simp only [Act.put, List.setIfInBounds_toArray, List.set_cons_zero, List.set_cons_succ, i64_w, i32_w]
              rfl
            refine done_ (by kernel_rfl) ?_
            try go_wp2
            go_ret
            exact ⟨by first | rfl | (simp [errW_none, errW_some] <;> rfl) | (simp [*, errW_none, errW_some] <;> rfl), by repeat (first | (with_reducible first | exact HB.out | apply below_alloc | apply pw_below_drewN | apply below_drew1 | refine below_set ?_ GE34101.out | refine below_set ?_ GE34119.out) | exact HB.out)⟩

end Go.Proofs.Ytkobjjadojpjfaa.Pr
