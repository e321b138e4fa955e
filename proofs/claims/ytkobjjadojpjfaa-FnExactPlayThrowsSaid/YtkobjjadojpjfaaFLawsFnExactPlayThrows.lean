-- A text of the machine side, written by wip/gen.py of this repo out of the translation. Not trusted: Lean checks it.
import Derived.Test.YtkobjjadojpjfaaF0
import Derived.Test.YtkobjjadojpjfaaFGA
import Derived.Test.YtkobjjadojpjfaaFGE
namespace Go.Proofs.Ytkobjjadojpjfaa.Pr
open Go.RowKit Go.Proofs.YtkobjjadojpjfaaW.PrintWords Go.Proofs.YtkobjjadojpjfaaW.PrintLast Go.Proofs.YtkobjjadojpjfaaW.PrintMore
attribute [local go_sem] max2_int min2_int max_two min_two max_three min_three max_four min_four   -- for this text's walks alone
set_option linter.unusedVariables false
set_option linter.unusedSimpArgs false

/-! ### laws_FnExactPlayThrows: function 12 -/
def laws_FnExactPlayThrows.j0 : Nat → List Int → List Int → Bool → Int → Int → Int → List (S82) → Int → Int → Int → List (S27) → Option (Bool)
  | 0, _, _, _, _, _, _, _, _, _, _, _ => none
  | k + 1, x2, x11, x49, x24102000, x24102001, x24102002, x24102003, x24121000, x24121001, x24121002, x24121003 => if x49 = true then (some false) else ((laws_toBoard.f k x24102000 x24102001 x24102002 x24102003).bind fun bt24126 => ((laws_eqBoard.f k x24121000 x24121001 x24121002 x24121003 bt24126.1 bt24126.2.1 bt24126.2.2.1 bt24126.2.2.2).bind fun t24132 => (if t24132 = true then ((laws_toIntS.f k x2).bind fun t24133 => ((laws_eqIntS.f k x11 t24133).bind fun t24136 => (if t24136 = true then (some true) else (some false)))) else (some false))))
def laws_FnExactPlayThrows.f (k : Nat) (a0_0 : Int) (a0_1 : Int) (a0_2 : Int) (l0_3 : List (S82)) (a1 : Int) (l2 : List Int) : Option (Bool) := if (l2.length : Int) > 1048576 then (some true) else ((laws_szBoard.f a0_0 a0_1 a0_2 l0_3 1048576).bind fun t24102 => (if t24102 < 0 then (some true) else ((laws_toBoard.f k a0_0 a0_1 a0_2 l0_3).bind fun bt24103 => ((laws_toIntS.f k l2).bind fun t24109 => ((spec_PlayThrows.f k bt24103.1 bt24103.2.1 bt24103.2.2.1 bt24103.2.2.2 a1 t24109).bind fun bt24112 => ((laws_toBoard.f k a0_0 a0_1 a0_2 l0_3).bind fun bt24114 => ((laws_toIntS.f k l2).bind fun t24121 => ((impl_PlayThrows.f k bt24114.1 bt24114.2.1 bt24114.2.2.1 bt24114.2.2.2 a1 t24121).bind fun bt24124 => (if bt24124.1 = bt24112.1 then (laws_FnExactPlayThrows.j0 k l2 t24121 (bt24124.2 != bt24112.2) a0_0 a0_1 a0_2 l0_3 bt24114.1 bt24114.2.1 bt24114.2.2.1 bt24114.2.2.2) else (laws_FnExactPlayThrows.j0 k l2 t24121 true a0_0 a0_1 a0_2 l0_3 bt24114.1 bt24114.2.1 bt24114.2.2.1 bt24114.2.2.2))))))))))
theorem laws_FnExactPlayThrows.mono_l : ∀ k, (∀ y0 y1 y2 y3 y4 y5 y6 y7 y8 y9 y10, LeO (laws_FnExactPlayThrows.j0 k y0 y1 y2 y3 y4 y5 y6 y7 y8 y9 y10) (laws_FnExactPlayThrows.j0 (k + 1) y0 y1 y2 y3 y4 y5 y6 y7 y8 y9 y10))
  | 0 => fun _ _ _ _ _ _ _ _ _ _ _ r h => by simp [laws_FnExactPlayThrows.j0] at h
  | k + 1 => by
    have ih0 := laws_FnExactPlayThrows.mono_l k
    · intro y0 y1 y2 y3 y4 y5 y6 y7 y8 y9 y10
      unfold laws_FnExactPlayThrows.j0
      repeat' first
      | (with_reducible exact ih0 _ _ _ _ _ _ _ _ _ _ _)
      | (with_reducible exact impl_PlayThrows.mono _ _ _ _ _ _ _)
      | (with_reducible exact laws_eqBoard.mono _ _ _ _ _ _ _ _ _)
      | (with_reducible exact laws_eqIntS.mono _ _ _)
      | (with_reducible exact laws_toBoard.mono _ _ _ _ _)
      | (with_reducible exact laws_toIntS.mono _ _)
      | (with_reducible exact spec_PlayThrows.mono _ _ _ _ _ _ _)
      | (with_reducible exact LeO.refl _)
      | (with_reducible exact LeO.none _)
      | (with_reducible refine LeO.ite ?_ ?_)
      | (with_reducible refine LeO.bind ?_ (fun _ => ?_))
      | exact ih0 _ _ _ _ _ _ _ _ _ _ _
      | exact impl_PlayThrows.mono _ _ _ _ _ _ _
      | exact laws_eqBoard.mono _ _ _ _ _ _ _ _ _
      | exact laws_eqIntS.mono _ _ _
      | exact laws_toBoard.mono _ _ _ _ _
      | exact laws_toIntS.mono _ _
      | exact spec_PlayThrows.mono _ _ _ _ _ _ _
      | exact LeO.none _
      | refine LeO.ite ?_ ?_
      | refine LeO.bind ?_ (fun _ => ?_)
theorem laws_FnExactPlayThrows.mono : ∀ a0 a1 a2 a3 a4 a5 k, LeO (laws_FnExactPlayThrows.f k a0 a1 a2 a3 a4 a5) (laws_FnExactPlayThrows.f (k + 1) a0 a1 a2 a3 a4 a5) := by
  intro a0 a1 a2 a3 a4 a5 k
  have ih0 := laws_FnExactPlayThrows.mono_l k
  unfold laws_FnExactPlayThrows.f
  repeat' first
      | (with_reducible exact ih0 _ _ _ _ _ _ _ _ _ _ _)
      | (with_reducible exact impl_PlayThrows.mono _ _ _ _ _ _ _)
      | (with_reducible exact laws_eqBoard.mono _ _ _ _ _ _ _ _ _)
      | (with_reducible exact laws_eqIntS.mono _ _ _)
      | (with_reducible exact laws_toBoard.mono _ _ _ _ _)
      | (with_reducible exact laws_toIntS.mono _ _)
      | (with_reducible exact spec_PlayThrows.mono _ _ _ _ _ _ _)
      | (with_reducible exact LeO.refl _)
      | (with_reducible exact LeO.none _)
      | (with_reducible refine LeO.ite ?_ ?_)
      | (with_reducible refine LeO.bind ?_ (fun _ => ?_))
      | exact ih0 _ _ _ _ _ _ _ _ _ _ _
      | exact impl_PlayThrows.mono _ _ _ _ _ _ _
      | exact laws_eqBoard.mono _ _ _ _ _ _ _ _ _
      | exact laws_eqIntS.mono _ _ _
      | exact laws_toBoard.mono _ _ _ _ _
      | exact laws_toIntS.mono _ _
      | exact spec_PlayThrows.mono _ _ _ _ _ _ _
      | exact LeO.none _
      | refine LeO.ite ?_ ?_
      | refine LeO.bind ?_ (fun _ => ?_)
set_option maxHeartbeats 8000000 in
set_option maxRecDepth 100000 in
theorem laws_FnExactPlayThrows.calls (k : Nat) (a0_0 : Int) (a0_1 : Int) (a0_2 : Int) (A0_3 : Option Addr) (c0_3 : Nat) (l0_3 : List (S82)) (a1 : Int) (A2 : Option Addr) (c2 : Nat) (l2 : List Int) (r : Bool) (w : World) (hr0_3 : Kd.C k82 w A0_3 l0_3.length l0_3) (hc0_3 : l0_3.length ≤ c0_3) (hr2 : Kd.C (Kd.int .i64) w A2 l2.length l2) (hc2 : l2.length ≤ c2) (h : laws_FnExactPlayThrows.f k a0_0 a0_1 a0_2 l0_3 a1 l2 = some r) :
    Calls Try.prog 12 #[.agg #[.int .i64 a0_0, .int .i64 a0_1, .int .i64 a0_2, .slice A0_3 l0_3.length c0_3], .int .i64 a1, .slice A2 l2.length c2] w fun e w' => e = .returned (.bool r) ∧ Below w.heap.size w w' := by
  have hu24 := Try.underlying24
  have hu32 := Try.underlying32
  have HR0_3 := Aside0.mk hr0_3
  have HC0_3 := Aside0.mk hc0_3
  clear hr0_3 hc0_3
  have HR2 := Aside0.mk hr2
  have HC2 := Aside0.mk hc2
  clear hr2 hc2
  have HB := Aside0.mk (Below.refl w.heap.size w)
  have H : (if (l2.length : Int) > 1048576 then (some true) else ((laws_szBoard.f a0_0 a0_1 a0_2 l0_3 1048576).bind fun t24102 => (if t24102 < 0 then (some true) else ((laws_toBoard.f k a0_0 a0_1 a0_2 l0_3).bind fun bt24103 => ((laws_toIntS.f k l2).bind fun t24109 => ((spec_PlayThrows.f k bt24103.1 bt24103.2.1 bt24103.2.2.1 bt24103.2.2.2 a1 t24109).bind fun bt24112 => ((laws_toBoard.f k a0_0 a0_1 a0_2 l0_3).bind fun bt24114 => ((laws_toIntS.f k l2).bind fun t24121 => ((impl_PlayThrows.f k bt24114.1 bt24114.2.1 bt24114.2.2.1 bt24114.2.2.2 a1 t24121).bind fun bt24124 => (if bt24124.1 = bt24112.1 then (laws_FnExactPlayThrows.j0 k l2 t24121 (bt24124.2 != bt24112.2) a0_0 a0_1 a0_2 l0_3 bt24114.1 bt24114.2.1 bt24114.2.2.1 bt24114.2.2.2) else (laws_FnExactPlayThrows.j0 k l2 t24121 true a0_0 a0_1 a0_2 l0_3 bt24114.1 bt24114.2.1 bt24114.2.2.1 bt24114.2.2.2))))))))))) = some r := h
  clear h
  by_cases c4 : (l2.length : Int) > 1048576
  · rw [if_pos c4] at H
    have c4b0 : decide (1048576 < (l2.length : Int)) = true := decide_eq_true c4
    have c4b1 : decide (1048576 < l2.length) = true := decide_eq_true (by omega)
    clear c4
    obtain rfl := Option.some.inj H
    go_enter Try.func12, Try.ntmps12
    go_wp2_with (first | ((with_reducible refine gate_dst (N := 3) rfl ?_); refine box_event ?hg (N := 3) ?hd (cs := #[.int .i64 a0_0, .int .i64 a0_1, .int .i64 a0_2, .slice A0_3 l0_3.length c0_3]) (t := 24) ?hr ?_; (case hd => rfl); (case hg => rfl); (case hr => first | (go_simp; done) | (go_simp; rfl)); intro gb24101 hg w5 hbox hb; have n0_ := Aside0.mk (below_step (by repeat (first | (with_reducible first | exact HB.out | apply below_alloc | apply pw_below_drewN | apply below_drew1) | exact HB.out)) hb); have n1_ := Aside0.mk (hbox); have n2_ := Aside0.mk ((by rw [hg]; exact (below_size (by repeat (first | (with_reducible first | exact HB.out | apply below_alloc | apply pw_below_drewN | apply below_drew1) | exact HB.out))) : w.heap.size ≤ gb24101)); have n3_ := Aside0.mk ((by rw [hg]; exact (below_size (by repeat (first | (with_reducible first | exact HB.out | apply below_alloc | apply pw_below_drewN | apply below_drew1) | exact HB.out))) : w.heap.size ≤ gb24101)); clear HB; have HB := n0_; have BK24101 := n1_; have GW24101 := n2_; have GE24101 := n3_; clear n0_ n1_ n2_ n3_; clear hb hbox hg))
    go_ret
    exact ⟨by first | rfl | (simp [errW_none, errW_some] <;> rfl) | (simp [*, errW_none, errW_some] <;> rfl), by repeat (first | (with_reducible first | exact HB.out | apply below_alloc | apply pw_below_drewN | apply below_drew1 | refine below_set ?_ GE24101.out) | exact HB.out)⟩
  · rw [if_neg c4] at H
    have c4b0 : decide (1048576 < (l2.length : Int)) = false := decide_eq_false c4
    have c4b1 : decide (1048576 < l2.length) = false := decide_eq_false (by omega)
    clear c4
    replace H := Option.bind_eq_some_iff.mp H
    obtain ⟨t24102, A60, H⟩ := H
    replace H : (if t24102 < 0 then (some true) else ((laws_toBoard.f k a0_0 a0_1 a0_2 l0_3).bind fun bt24103 => ((laws_toIntS.f k l2).bind fun t24109 => ((spec_PlayThrows.f k bt24103.1 bt24103.2.1 bt24103.2.2.1 bt24103.2.2.2 a1 t24109).bind fun bt24112 => ((laws_toBoard.f k a0_0 a0_1 a0_2 l0_3).bind fun bt24114 => ((laws_toIntS.f k l2).bind fun t24121 => ((impl_PlayThrows.f k bt24114.1 bt24114.2.1 bt24114.2.2.1 bt24114.2.2.2 a1 t24121).bind fun bt24124 => (if bt24124.1 = bt24112.1 then (laws_FnExactPlayThrows.j0 k l2 t24121 (bt24124.2 != bt24112.2) a0_0 a0_1 a0_2 l0_3 bt24114.1 bt24114.2.1 bt24114.2.2.1 bt24114.2.2.2) else (laws_FnExactPlayThrows.j0 k l2 t24121 true a0_0 a0_1 a0_2 l0_3 bt24114.1 bt24114.2.1 bt24114.2.2.1 bt24114.2.2.2))))))))) = some r := H
    have A6 := Aside0.mk A60
    clear A60
    by_cases c7 : t24102 < 0
    · rw [if_pos c7] at H
      have c7b0 : decide (t24102 < 0) = true := decide_eq_true c7
      clear c7
      obtain rfl := Option.some.inj H
      go_enter Try.func12, Try.ntmps12
      go_wp2_with (first | ((with_reducible refine gate_dst (N := 3) rfl ?_); refine box_event ?hg (N := 3) ?hd (cs := #[.int .i64 a0_0, .int .i64 a0_1, .int .i64 a0_2, .slice A0_3 l0_3.length c0_3]) (t := 24) ?hr ?_; (case hd => rfl); (case hg => rfl); (case hr => first | (go_simp; done) | (go_simp; rfl)); intro gb24101 hg w8 hbox hb; have n0_ := Aside0.mk (below_step (by repeat (first | (with_reducible first | exact HB.out | apply below_alloc | apply pw_below_drewN | apply below_drew1) | exact HB.out)) hb); have n1_ := Aside0.mk (hbox); have n2_ := Aside0.mk ((by rw [hg]; exact (below_size (by repeat (first | (with_reducible first | exact HB.out | apply below_alloc | apply pw_below_drewN | apply below_drew1) | exact HB.out))) : w.heap.size ≤ gb24101)); have n3_ := Aside0.mk ((by rw [hg]; exact (below_size (by repeat (first | (with_reducible first | exact HB.out | apply below_alloc | apply pw_below_drewN | apply below_drew1) | exact HB.out))) : w.heap.size ≤ gb24101)); clear HB; have HB := n0_; have BK24101 := n1_; have GW24101 := n2_; have GE24101 := n3_; clear n0_ n1_ n2_ n3_; clear hb hbox hg; have hcz9_0 : w8.cell? ⟨gb24101, 0, none⟩ = some (.int .i64 a0_0) := (blk_cell BK24101.out 0).trans rfl; have hcz9_1 : w8.cell? ⟨gb24101, 1, none⟩ = some (.int .i64 a0_1) := (blk_cell BK24101.out 1).trans rfl; have hcz9_2 : w8.cell? ⟨gb24101, 2, none⟩ = some (.int .i64 a0_2) := (blk_cell BK24101.out 2).trans rfl; have hcz9_3 : w8.cell? ⟨gb24101, 3, none⟩ = some (.slice A0_3 l0_3.length c0_3) := (blk_cell BK24101.out 3).trans rfl; have hfz9_0 := blk_frozen BK24101.out 0; have hfz9_1 := blk_frozen BK24101.out 1; have hfz9_2 := blk_frozen BK24101.out 2; have hfz9_3 := blk_frozen BK24101.out 3) | ((with_reducible refine gate_callee (f := 37) rfl ?_); refine goesL_ (some 19) rfl rfl Try.func37 (by kernel_rfl) rfl #[.agg #[.int .i64 a0_0, .int .i64 a0_1, .int .i64 a0_2, .slice A0_3 l0_3.length c0_3], .int .i64 1048576] rfl (by (try simp only [List.map_toArray, List.map_cons, List.map_nil]); first | done | rfl | (simp only [List.length_drop, List.length_take]; rfl)) ?_; (with_reducible refine (laws_szBoard.calls a0_0 a0_1 a0_2 _ _ l0_3 1048576 t24102 _ ?side1 ?side2 A6.out).mono ?_); (case side1 => repeat (first | exact (Kd.C_below HR0_3.out HB.out) | (with_reducible refine Kd.C_alloc ?_ _) | (with_reducible refine Kd.C_drewN ?_ _) | (with_reducible refine Kd.C_drew ?_))); (case side2 => exact HC0_3.out); rintro e w10 ⟨rfl, hb⟩; refine ⟨_, rfl, ?_⟩; have n0_ := Aside0.mk (blk_below (g := gb24101) (o := .cells #[.int .i64 a0_0, .int .i64 a0_1, .int .i64 a0_2, .slice A0_3 l0_3.length c0_3] 24 (0, 0)) (by (with_reducible repeat (first | refine blk_drewN ?_ _ | refine blk_drew ?_ | refine blk_alloc ?_ _)); exact BK24101.out) hb); have n1_ := Aside0.mk (below_step (by repeat (first | (with_reducible first | exact HB.out | apply below_alloc | apply pw_below_drewN | apply below_drew1 | refine below_set ?_ GE24101.out) | exact HB.out)) hb); clear BK24101; clear HB; have BK24101 := n0_; have HB := n1_; clear n0_ n1_; (try clear hb); (try clear hb2); (try clear hk); (try clear hi)))
      go_ret
      exact ⟨by first | rfl | (simp [errW_none, errW_some] <;> rfl) | (simp [*, errW_none, errW_some] <;> rfl), by repeat (first | (with_reducible first | exact HB.out | apply below_alloc | apply pw_below_drewN | apply below_drew1 | refine below_set ?_ GE24101.out) | exact HB.out)⟩
    · rw [if_neg c7] at H
      have c7b0 : decide (t24102 < 0) = false := decide_eq_false c7
      clear c7
      replace H := Option.bind_eq_some_iff.mp H
      obtain ⟨⟨t24103, t24104, t24105, t24106⟩, A110, H⟩ := H
      replace H : ((laws_toIntS.f k l2).bind fun t24109 => ((spec_PlayThrows.f k t24103 t24104 t24105 t24106 a1 t24109).bind fun bt24112 => ((laws_toBoard.f k a0_0 a0_1 a0_2 l0_3).bind fun bt24114 => ((laws_toIntS.f k l2).bind fun t24121 => ((impl_PlayThrows.f k bt24114.1 bt24114.2.1 bt24114.2.2.1 bt24114.2.2.2 a1 t24121).bind fun bt24124 => (if bt24124.1 = bt24112.1 then (laws_FnExactPlayThrows.j0 k l2 t24121 (bt24124.2 != bt24112.2) a0_0 a0_1 a0_2 l0_3 bt24114.1 bt24114.2.1 bt24114.2.2.1 bt24114.2.2.2) else (laws_FnExactPlayThrows.j0 k l2 t24121 true a0_0 a0_1 a0_2 l0_3 bt24114.1 bt24114.2.1 bt24114.2.2.1 bt24114.2.2.2))))))) = some r := H
      have A11 := Aside0.mk A110
      clear A110
      replace H := Option.bind_eq_some_iff.mp H
      obtain ⟨t24109, A120, H⟩ := H
      replace H : ((spec_PlayThrows.f k t24103 t24104 t24105 t24106 a1 t24109).bind fun bt24112 => ((laws_toBoard.f k a0_0 a0_1 a0_2 l0_3).bind fun bt24114 => ((laws_toIntS.f k l2).bind fun t24121 => ((impl_PlayThrows.f k bt24114.1 bt24114.2.1 bt24114.2.2.1 bt24114.2.2.2 a1 t24121).bind fun bt24124 => (if bt24124.1 = bt24112.1 then (laws_FnExactPlayThrows.j0 k l2 t24121 (bt24124.2 != bt24112.2) a0_0 a0_1 a0_2 l0_3 bt24114.1 bt24114.2.1 bt24114.2.2.1 bt24114.2.2.2) else (laws_FnExactPlayThrows.j0 k l2 t24121 true a0_0 a0_1 a0_2 l0_3 bt24114.1 bt24114.2.1 bt24114.2.2.1 bt24114.2.2.2)))))) = some r := H
      have A12 := Aside0.mk A120
      clear A120
      replace H := Option.bind_eq_some_iff.mp H
      obtain ⟨⟨t24112, t24113⟩, A130, H⟩ := H
      replace H : ((laws_toBoard.f k a0_0 a0_1 a0_2 l0_3).bind fun bt24114 => ((laws_toIntS.f k l2).bind fun t24121 => ((impl_PlayThrows.f k bt24114.1 bt24114.2.1 bt24114.2.2.1 bt24114.2.2.2 a1 t24121).bind fun bt24124 => (if bt24124.1 = t24112 then (laws_FnExactPlayThrows.j0 k l2 t24121 (bt24124.2 != t24113) a0_0 a0_1 a0_2 l0_3 bt24114.1 bt24114.2.1 bt24114.2.2.1 bt24114.2.2.2) else (laws_FnExactPlayThrows.j0 k l2 t24121 true a0_0 a0_1 a0_2 l0_3 bt24114.1 bt24114.2.1 bt24114.2.2.1 bt24114.2.2.2))))) = some r := H
      have A13 := Aside0.mk A130
      clear A130
      replace H := Option.bind_eq_some_iff.mp H
      obtain ⟨⟨t24114, t24115, t24116, t24117⟩, A140, H⟩ := H
      replace H : ((laws_toIntS.f k l2).bind fun t24121 => ((impl_PlayThrows.f k t24114 t24115 t24116 t24117 a1 t24121).bind fun bt24124 => (if bt24124.1 = t24112 then (laws_FnExactPlayThrows.j0 k l2 t24121 (bt24124.2 != t24113) a0_0 a0_1 a0_2 l0_3 t24114 t24115 t24116 t24117) else (laws_FnExactPlayThrows.j0 k l2 t24121 true a0_0 a0_1 a0_2 l0_3 t24114 t24115 t24116 t24117)))) = some r := H
      have A14 := Aside0.mk A140
      clear A140
      replace H := Option.bind_eq_some_iff.mp H
      obtain ⟨t24121, A150, H⟩ := H
      replace H : ((impl_PlayThrows.f k t24114 t24115 t24116 t24117 a1 t24121).bind fun bt24124 => (if bt24124.1 = t24112 then (laws_FnExactPlayThrows.j0 k l2 t24121 (bt24124.2 != t24113) a0_0 a0_1 a0_2 l0_3 t24114 t24115 t24116 t24117) else (laws_FnExactPlayThrows.j0 k l2 t24121 true a0_0 a0_1 a0_2 l0_3 t24114 t24115 t24116 t24117))) = some r := H
      have A15 := Aside0.mk A150
      clear A150
      replace H := Option.bind_eq_some_iff.mp H
      obtain ⟨⟨t24124, t24125⟩, A160, H⟩ := H
      replace H : (if t24124 = t24112 then (laws_FnExactPlayThrows.j0 k l2 t24121 (t24125 != t24113) a0_0 a0_1 a0_2 l0_3 t24114 t24115 t24116 t24117) else (laws_FnExactPlayThrows.j0 k l2 t24121 true a0_0 a0_1 a0_2 l0_3 t24114 t24115 t24116 t24117)) = some r := H
      have A16 := Aside0.mk A160
      clear A160
      have HC17 := Aside0.mk H
      clear H
      go_enter Try.func12, Try.ntmps12
      go_upto_region 11 with (first | ((with_reducible refine gate_dst (N := 3) rfl ?_); refine box_event ?hg (N := 3) ?hd (cs := #[.int .i64 a0_0, .int .i64 a0_1, .int .i64 a0_2, .slice A0_3 l0_3.length c0_3]) (t := 24) ?hr ?_; (case hd => rfl); (case hg => rfl); (case hr => first | (go_simp; done) | (go_simp; rfl)); intro gb24101 hg w18 hbox hb; have n0_ := Aside0.mk (below_step (by repeat (first | (with_reducible first | exact HB.out | apply below_alloc | apply pw_below_drewN | apply below_drew1) | exact HB.out)) hb); have n1_ := Aside0.mk (hbox); have n2_ := Aside0.mk ((by rw [hg]; exact (below_size (by repeat (first | (with_reducible first | exact HB.out | apply below_alloc | apply pw_below_drewN | apply below_drew1) | exact HB.out))) : w.heap.size ≤ gb24101)); have n3_ := Aside0.mk ((by rw [hg]; exact (below_size (by repeat (first | (with_reducible first | exact HB.out | apply below_alloc | apply pw_below_drewN | apply below_drew1) | exact HB.out))) : w.heap.size ≤ gb24101)); clear HB; have HB := n0_; have BK24101 := n1_; have GW24101 := n2_; have GE24101 := n3_; clear n0_ n1_ n2_ n3_; clear hb hbox hg; have hcz19_0 : w18.cell? ⟨gb24101, 0, none⟩ = some (.int .i64 a0_0) := (blk_cell BK24101.out 0).trans rfl; have hcz19_1 : w18.cell? ⟨gb24101, 1, none⟩ = some (.int .i64 a0_1) := (blk_cell BK24101.out 1).trans rfl; have hcz19_2 : w18.cell? ⟨gb24101, 2, none⟩ = some (.int .i64 a0_2) := (blk_cell BK24101.out 2).trans rfl; have hcz19_3 : w18.cell? ⟨gb24101, 3, none⟩ = some (.slice A0_3 l0_3.length c0_3) := (blk_cell BK24101.out 3).trans rfl; have hfz19_0 := blk_frozen BK24101.out 0; have hfz19_1 := blk_frozen BK24101.out 1; have hfz19_2 := blk_frozen BK24101.out 2; have hfz19_3 := blk_frozen BK24101.out 3) | ((with_reducible refine gate_callee (f := 37) rfl ?_); refine goesL_ (some 19) rfl rfl Try.func37 (by kernel_rfl) rfl #[.agg #[.int .i64 a0_0, .int .i64 a0_1, .int .i64 a0_2, .slice A0_3 l0_3.length c0_3], .int .i64 1048576] rfl (by (try simp only [List.map_toArray, List.map_cons, List.map_nil]); first | done | rfl | (simp only [List.length_drop, List.length_take]; rfl)) ?_; (with_reducible refine (laws_szBoard.calls a0_0 a0_1 a0_2 _ _ l0_3 1048576 t24102 _ ?side1 ?side2 A6.out).mono ?_); (case side1 => repeat (first | exact (Kd.C_below HR0_3.out HB.out) | (with_reducible refine Kd.C_alloc ?_ _) | (with_reducible refine Kd.C_drewN ?_ _) | (with_reducible refine Kd.C_drew ?_))); (case side2 => exact HC0_3.out); rintro e w20 ⟨rfl, hb⟩; refine ⟨_, rfl, ?_⟩; have n0_ := Aside0.mk (blk_below (g := gb24101) (o := .cells #[.int .i64 a0_0, .int .i64 a0_1, .int .i64 a0_2, .slice A0_3 l0_3.length c0_3] 24 (0, 0)) (by (with_reducible repeat (first | refine blk_drewN ?_ _ | refine blk_drew ?_ | refine blk_alloc ?_ _)); exact BK24101.out) hb); have n1_ := Aside0.mk (below_step (by repeat (first | (with_reducible first | exact HB.out | apply below_alloc | apply pw_below_drewN | apply below_drew1 | refine below_set ?_ GE24101.out) | exact HB.out)) hb); clear BK24101; clear HB; have BK24101 := n0_; have HB := n1_; clear n0_ n1_; (try clear hb); (try clear hb2); (try clear hk); (try clear hi); have hcz21_0 : w20.cell? ⟨gb24101, 0, none⟩ = some (.int .i64 a0_0) := (blk_cell BK24101.out 0).trans rfl; have hcz21_1 : w20.cell? ⟨gb24101, 1, none⟩ = some (.int .i64 a0_1) := (blk_cell BK24101.out 1).trans rfl; have hcz21_2 : w20.cell? ⟨gb24101, 2, none⟩ = some (.int .i64 a0_2) := (blk_cell BK24101.out 2).trans rfl; have hcz21_3 : w20.cell? ⟨gb24101, 3, none⟩ = some (.slice A0_3 l0_3.length c0_3) := (blk_cell BK24101.out 3).trans rfl; have hfz21_0 := blk_frozen BK24101.out 0; have hfz21_1 := blk_frozen BK24101.out 1; have hfz21_2 := blk_frozen BK24101.out 2; have hfz21_3 := blk_frozen BK24101.out 3) | ((with_reducible refine gate_callee (f := 39) rfl ?_); refine goesL_ (some 24) rfl rfl Try.func39 (by kernel_rfl) rfl #[.agg #[.int .i64 a0_0, .int .i64 a0_1, .int .i64 a0_2, .slice A0_3 l0_3.length c0_3]] rfl (by (try simp only [List.map_toArray, List.map_cons, List.map_nil]); first | done | rfl | (simp only [List.length_drop, List.length_take]; rfl)) ?_; (with_reducible refine (laws_toBoard.calls k a0_0 a0_1 a0_2 _ _ l0_3 t24103 t24104 t24105 t24106 _ ?side1 ?side2 A11.out).mono ?_); (case side1 => repeat (first | exact (Kd.C_below HR0_3.out HB.out) | (with_reducible refine Kd.C_alloc ?_ _) | (with_reducible refine Kd.C_drewN ?_ _) | (with_reducible refine Kd.C_drew ?_))); (case side2 => exact HC0_3.out); rintro e w22 ⟨v24107, rfl, ho0, hb⟩; refine ⟨_, rfl, ?_⟩; have n0_ := Aside0.mk (Kd.R_lower ho0 (below_size (by repeat (first | (with_reducible first | exact HB.out | apply below_alloc | apply pw_below_drewN | apply below_drew1 | refine below_set ?_ GE24101.out) | exact HB.out)))); have n1_ := Aside0.mk (blk_below (g := gb24101) (o := .cells #[.int .i64 a0_0, .int .i64 a0_1, .int .i64 a0_2, .slice A0_3 l0_3.length c0_3] 24 (0, 0)) (by (with_reducible repeat (first | refine blk_drewN ?_ _ | refine blk_drew ?_ | refine blk_alloc ?_ _)); exact BK24101.out) hb); have n2_ := Aside0.mk (below_step (by repeat (first | (with_reducible first | exact HB.out | apply below_alloc | apply pw_below_drewN | apply below_drew1 | refine below_set ?_ GE24101.out) | exact HB.out)) hb); clear BK24101; clear HB; have HO24108 := n0_; have BK24101 := n1_; have HB := n2_; clear n0_ n1_ n2_; (try clear hb); (try clear hb2); (try clear hk); (try clear hi); (try clear ho0)) | ((with_reducible refine gate_callee (f := 71) rfl ?_); refine goesL_ (some 27) rfl rfl Try.func71 (by kernel_rfl) rfl #[.slice A2 l2.length c2] rfl (by (try simp only [List.map_toArray, List.map_cons, List.map_nil]); first | done | rfl | (simp only [List.length_drop, List.length_take]; rfl)) ?_; (with_reducible refine (laws_toIntS.calls k _ _ l2 t24109 _ ?side1 ?side2 A12.out).mono ?_); (case side1 => repeat (first | exact (Kd.C_below HR2.out HB.out) | (with_reducible refine Kd.C_alloc ?_ _) | (with_reducible refine Kd.C_drewN ?_ _) | (with_reducible refine Kd.C_drew ?_))); (case side2 => exact HC2.out); rintro e w23 ⟨v24110, rfl, ho0, hb⟩; refine ⟨_, rfl, ?_⟩; have n0_ := Aside0.mk (Kd.R_below (by (with_reducible repeat (first | apply Kd.R_alloc | apply Kd.R_drewN | apply Kd.R_drew)); exact HO24108.out) hb); have n1_ := Aside0.mk (Kd.R_lower ho0 (below_size (by repeat (first | (with_reducible first | exact HB.out | apply below_alloc | apply pw_below_drewN | apply below_drew1 | refine below_set ?_ GE24101.out) | exact HB.out)))); have n2_ := Aside0.mk (blk_below (g := gb24101) (o := .cells #[.int .i64 a0_0, .int .i64 a0_1, .int .i64 a0_2, .slice A0_3 l0_3.length c0_3] 24 (0, 0)) (by (with_reducible repeat (first | refine blk_drewN ?_ _ | refine blk_drew ?_ | refine blk_alloc ?_ _)); exact BK24101.out) hb); have n3_ := Aside0.mk (below_step (by repeat (first | (with_reducible first | exact HB.out | apply below_alloc | apply pw_below_drewN | apply below_drew1 | refine below_set ?_ GE24101.out) | exact HB.out)) hb); clear HO24108; clear BK24101; clear HB; have HO24108 := n0_; have HO24111 := n1_; have BK24101 := n2_; have HB := n3_; clear n0_ n1_ n2_ n3_; (try clear hb); (try clear hb2); (try clear hk); (try clear hi); (try clear ho0); obtain ⟨Ao24, co24, eo24⟩ := Kd.R_slice HO24108.out; subst eo24; obtain ⟨Ao25, co25, eo25⟩ := Kd.R_slice HO24111.out; subst eo25) | ((with_reducible refine gate_callee (f := 70) rfl ?_); refine goesL_ (some 28) rfl rfl Try.func70 (by kernel_rfl) rfl #[.agg #[.int .i64 t24103, .int .i64 t24104, .int .i64 t24105, .slice Ao24 t24106.length co24], .int .i64 a1, .slice Ao25 t24109.length co25] rfl (by (try simp only [List.map_toArray, List.map_cons, List.map_nil]); first | done | rfl | (simp only [List.length_drop, List.length_take]; rfl)) ?_; (with_reducible refine (spec_PlayThrows.calls k t24103 t24104 t24105 _ _ t24106 a1 _ _ t24109 t24112 t24113 _ ?side1 ?side2 ?side3 ?side4 A13.out).mono ?_); (case side1 => repeat (first | exact (Kd.R_reads' HO24108.out).2.2 | (with_reducible refine Kd.C_alloc ?_ _) | (with_reducible refine Kd.C_drewN ?_ _) | (with_reducible refine Kd.C_drew ?_))); (case side2 => exact (Kd.R_reads' HO24108.out).2.1); (case side3 => repeat (first | exact (Kd.R_reads' HO24111.out).2.2 | (with_reducible refine Kd.C_alloc ?_ _) | (with_reducible refine Kd.C_drewN ?_ _) | (with_reducible refine Kd.C_drew ?_))); (case side4 => exact (Kd.R_reads' HO24111.out).2.1); rintro e w26 ⟨rfl, hb⟩; refine ⟨_, rfl, ?_⟩; have n0_ := Aside0.mk (Kd.R_below (by (with_reducible repeat (first | apply Kd.R_alloc | apply Kd.R_drewN | apply Kd.R_drew)); exact HO24108.out) hb); have n1_ := Aside0.mk (Kd.R_below (by (with_reducible repeat (first | apply Kd.R_alloc | apply Kd.R_drewN | apply Kd.R_drew)); exact HO24111.out) hb); have n2_ := Aside0.mk (blk_below (g := gb24101) (o := .cells #[.int .i64 a0_0, .int .i64 a0_1, .int .i64 a0_2, .slice A0_3 l0_3.length c0_3] 24 (0, 0)) (by (with_reducible repeat (first | refine blk_drewN ?_ _ | refine blk_drew ?_ | refine blk_alloc ?_ _)); exact BK24101.out) hb); have n3_ := Aside0.mk (below_step (by repeat (first | (with_reducible first | exact HB.out | apply below_alloc | apply pw_below_drewN | apply below_drew1 | refine below_set ?_ GE24101.out) | exact HB.out)) hb); clear HO24108; clear HO24111; clear BK24101; clear HB; have HO24108 := n0_; have HO24111 := n1_; have BK24101 := n2_; have HB := n3_; clear n0_ n1_ n2_ n3_; (try clear hb); (try clear hb2); (try clear hk); (try clear hi); have hcz27_0 : w26.cell? ⟨gb24101, 0, none⟩ = some (.int .i64 a0_0) := (blk_cell BK24101.out 0).trans rfl; have hcz27_1 : w26.cell? ⟨gb24101, 1, none⟩ = some (.int .i64 a0_1) := (blk_cell BK24101.out 1).trans rfl; have hcz27_2 : w26.cell? ⟨gb24101, 2, none⟩ = some (.int .i64 a0_2) := (blk_cell BK24101.out 2).trans rfl; have hcz27_3 : w26.cell? ⟨gb24101, 3, none⟩ = some (.slice A0_3 l0_3.length c0_3) := (blk_cell BK24101.out 3).trans rfl; have hfz27_0 := blk_frozen BK24101.out 0; have hfz27_1 := blk_frozen BK24101.out 1; have hfz27_2 := blk_frozen BK24101.out 2; have hfz27_3 := blk_frozen BK24101.out 3) | ((with_reducible refine gate_callee (f := 39) rfl ?_); refine goesL_ (some 32) rfl rfl Try.func39 (by kernel_rfl) rfl #[.agg #[.int .i64 a0_0, .int .i64 a0_1, .int .i64 a0_2, .slice A0_3 l0_3.length c0_3]] rfl (by (try simp only [List.map_toArray, List.map_cons, List.map_nil]); first | done | rfl | (simp only [List.length_drop, List.length_take]; rfl)) ?_; (with_reducible refine (laws_toBoard.calls k a0_0 a0_1 a0_2 _ _ l0_3 t24114 t24115 t24116 t24117 _ ?side1 ?side2 A14.out).mono ?_); (case side1 => repeat (first | exact (Kd.C_below HR0_3.out HB.out) | (with_reducible refine Kd.C_alloc ?_ _) | (with_reducible refine Kd.C_drewN ?_ _) | (with_reducible refine Kd.C_drew ?_))); (case side2 => exact HC0_3.out); rintro e w28 ⟨v24118, rfl, ho0, hb⟩; refine ⟨_, rfl, ?_⟩; have n0_ := Aside0.mk (Kd.R_elder' (by (with_reducible repeat (first | apply Kd.R_alloc | apply Kd.R_drewN | apply Kd.R_drew)); exact HO24108.out) (Kd.R_base ho0) hb); have n1_ := Aside0.mk (Kd.R_below (by (with_reducible repeat (first | apply Kd.R_alloc | apply Kd.R_drewN | apply Kd.R_drew)); exact HO24111.out) hb); have n2_ := Aside0.mk (Kd.R_lower (Kd.R_new' ho0 (Kd.R_lt (by (with_reducible repeat (first | apply Kd.R_alloc | apply Kd.R_drewN | apply Kd.R_drew)); exact HO24108.out))) (below_size (by repeat (first | (with_reducible first | exact HB.out | apply below_alloc | apply pw_below_drewN | apply below_drew1 | refine below_set ?_ GE24101.out) | exact HB.out)))); have n3_ := Aside0.mk (blk_below (g := gb24101) (o := .cells #[.int .i64 a0_0, .int .i64 a0_1, .int .i64 a0_2, .slice A0_3 l0_3.length c0_3] 24 (0, 0)) (by (with_reducible repeat (first | refine blk_drewN ?_ _ | refine blk_drew ?_ | refine blk_alloc ?_ _)); exact BK24101.out) hb); have n4_ := Aside0.mk (below_step (by repeat (first | (with_reducible first | exact HB.out | apply below_alloc | apply pw_below_drewN | apply below_drew1 | refine below_set ?_ GE24101.out) | exact HB.out)) hb); clear HO24108; clear HO24111; clear BK24101; clear HB; have HO24108 := n0_; have HO24111 := n1_; have HO24119 := n2_; have BK24101 := n3_; have HB := n4_; clear n0_ n1_ n2_ n3_ n4_; (try clear hb); (try clear hb2); (try clear hk); (try clear hi); (try clear ho0)) | ((with_reducible refine gate_dst (N := 10) rfl ?_); refine box_event ?hg (N := 10) ?hd (cs := #[.int .i64 0, .int .i64 0, .int .i64 0, .slice none 0 0]) (t := 32) ?hr ?_; (case hd => rfl); (case hg => rfl); (case hr => first | (go_simp; done) | (go_simp; rfl)); intro gb24120 hg w29 hbox hb; have n0_ := Aside0.mk (Kd.R_below (by (with_reducible repeat (first | apply Kd.R_alloc | apply Kd.R_drewN | apply Kd.R_drew)); exact HO24108.out) hb); have n1_ := Aside0.mk (Kd.R_below (by (with_reducible repeat (first | apply Kd.R_alloc | apply Kd.R_drewN | apply Kd.R_drew)); exact HO24111.out) hb); have n2_ := Aside0.mk (Kd.R_below (by (with_reducible repeat (first | apply Kd.R_alloc | apply Kd.R_drewN | apply Kd.R_drew)); exact HO24119.out) hb); have n3_ := Aside0.mk (blk_below (g := gb24101) (o := .cells #[.int .i64 a0_0, .int .i64 a0_1, .int .i64 a0_2, .slice A0_3 l0_3.length c0_3] 24 (0, 0)) (by (with_reducible repeat (first | refine blk_drewN ?_ _ | refine blk_drew ?_ | refine blk_alloc ?_ _)); exact BK24101.out) hb); have n4_ := Aside0.mk (below_step (by repeat (first | (with_reducible first | exact HB.out | apply below_alloc | apply pw_below_drewN | apply below_drew1 | refine below_set ?_ GE24101.out) | exact HB.out)) hb); have n5_ := Aside0.mk (hbox); have n6_ := Aside0.mk ((by rw [hg]; exact (below_size (by repeat (first | (with_reducible first | exact HB.out | apply below_alloc | apply pw_below_drewN | apply below_drew1 | refine below_set ?_ GE24101.out) | exact HB.out))) : w.heap.size ≤ gb24120)); have n7_ := Aside0.mk ((by rw [hg]; exact (below_size (by repeat (first | (with_reducible first | exact HB.out | apply below_alloc | apply pw_below_drewN | apply below_drew1 | refine below_set ?_ GE24101.out) | exact HB.out))) : w.heap.size ≤ gb24120)); have n8_ := Aside0.mk ((by rw [hg]; exact Nat.ne_of_lt (blk_lt (g := gb24101) (o := .cells #[.int .i64 a0_0, .int .i64 a0_1, .int .i64 a0_2, .slice A0_3 l0_3.length c0_3] 24 (0, 0)) (by (with_reducible repeat (first | refine blk_drewN ?_ _ | refine blk_drew ?_ | refine blk_alloc ?_ _)); exact BK24101.out)) : gb24101 ≠ gb24120)); have n9_ := Aside0.mk ((by rw [hg]; exact Nat.ne_of_gt (blk_lt (g := gb24101) (o := .cells #[.int .i64 a0_0, .int .i64 a0_1, .int .i64 a0_2, .slice A0_3 l0_3.length c0_3] 24 (0, 0)) (by (with_reducible repeat (first | refine blk_drewN ?_ _ | refine blk_drew ?_ | refine blk_alloc ?_ _)); exact BK24101.out)) : gb24120 ≠ gb24101)); clear HO24108; clear HO24111; clear HO24119; clear BK24101; clear HB; have HO24108 := n0_; have HO24111 := n1_; have HO24119 := n2_; have BK24101 := n3_; have HB := n4_; have BK24120 := n5_; have GW24120 := n6_; have GE24120 := n7_; have NB24101_24120 := n8_; have NB24120_24101 := n9_; clear n0_ n1_ n2_ n3_ n4_ n5_ n6_ n7_ n8_ n9_; clear hb hbox hg; have hnb30 := NB24120_24101.out; have hnc30 := NB24101_24120.out; have hcz31_0 : w29.cell? ⟨gb24120, 0, none⟩ = some (.int .i64 0) := (blk_cell BK24120.out 0).trans rfl; have hcz31_1 : w29.cell? ⟨gb24120, 1, none⟩ = some (.int .i64 0) := (blk_cell BK24120.out 1).trans rfl; have hcz31_2 : w29.cell? ⟨gb24120, 2, none⟩ = some (.int .i64 0) := (blk_cell BK24120.out 2).trans rfl; have hcz31_3 : w29.cell? ⟨gb24120, 3, none⟩ = some (.slice none 0 0) := (blk_cell BK24120.out 3).trans rfl; have hfz31_0 := blk_frozen BK24120.out 0; have hfz31_1 := blk_frozen BK24120.out 1; have hfz31_2 := blk_frozen BK24120.out 2; have hfz31_3 := blk_frozen BK24120.out 3; obtain ⟨Ao32, co32, eo32⟩ := Kd.R_slice HO24119.out; subst eo32) | ((with_reducible refine gate_callee (f := 71) rfl ?_); refine goesL_ (some 34) rfl rfl Try.func71 (by kernel_rfl) rfl #[.slice A2 l2.length c2] rfl (by (try simp only [List.map_toArray, List.map_cons, List.map_nil]); first | done | rfl | (simp only [List.length_drop, List.length_take]; rfl)) ?_; (with_reducible refine (laws_toIntS.calls k _ _ l2 t24121 _ ?side1 ?side2 A15.out).mono ?_); (case side1 => exact Kd.C_below HR2.out (by repeat (first | (with_reducible first | exact HB.out | apply below_alloc | apply pw_below_drewN | apply below_drew1 | refine below_set ?_ GE24101.out | refine below_set ?_ GE24120.out) | exact HB.out))); (case side2 => exact HC2.out); rintro e w33 ⟨v24122, rfl, ho0, hb⟩; refine ⟨_, rfl, ?_⟩; have n0_ := Aside0.mk (Kd.R_below (by (with_reducible repeat (first | apply Kd.R_alloc | apply Kd.R_drewN | apply Kd.R_drew)); exact (Kd.R_mono (Kd.R_far (p := ⟨gb24120, 3, none⟩) (Kd.R_far (p := ⟨gb24120, 2, none⟩) (Kd.R_far (p := ⟨gb24120, 1, none⟩) (Kd.R_far (p := ⟨gb24120, 0, none⟩) (Kd.R_types HO24108.out BK24120.out (by decide)) (fun _ hk => hk.2) (.int .i64 t24114)) (fun _ hk => hk.2) (.int .i64 t24115)) (fun _ hk => hk.2) (.int .i64 t24116)) (fun _ hk => hk.2) (.slice Ao32 t24117.length co32)) (fun _ h_ => h_.1))) hb); have n1_ := Aside0.mk (Kd.R_elder' (by (with_reducible repeat (first | apply Kd.R_alloc | apply Kd.R_drewN | apply Kd.R_drew)); exact (Kd.R_mono (Kd.R_far (p := ⟨gb24120, 3, none⟩) (Kd.R_far (p := ⟨gb24120, 2, none⟩) (Kd.R_far (p := ⟨gb24120, 1, none⟩) (Kd.R_far (p := ⟨gb24120, 0, none⟩) (Kd.R_types HO24111.out BK24120.out (by decide)) (fun _ hk => hk.2) (.int .i64 t24114)) (fun _ hk => hk.2) (.int .i64 t24115)) (fun _ hk => hk.2) (.int .i64 t24116)) (fun _ hk => hk.2) (.slice Ao32 t24117.length co32)) (fun _ h_ => h_.1))) (Kd.R_base ho0) hb); have n2_ := Aside0.mk (Kd.R_below (by (with_reducible repeat (first | apply Kd.R_alloc | apply Kd.R_drewN | apply Kd.R_drew)); exact (Kd.R_mono (Kd.R_far (p := ⟨gb24120, 3, none⟩) (Kd.R_far (p := ⟨gb24120, 2, none⟩) (Kd.R_far (p := ⟨gb24120, 1, none⟩) (Kd.R_far (p := ⟨gb24120, 0, none⟩) (Kd.R_types HO24119.out BK24120.out (by decide)) (fun _ hk => hk.2) (.int .i64 t24114)) (fun _ hk => hk.2) (.int .i64 t24115)) (fun _ hk => hk.2) (.int .i64 t24116)) (fun _ hk => hk.2) (.slice Ao32 t24117.length co32)) (fun _ h_ => h_.1))) hb); have n3_ := Aside0.mk (Kd.R_lower (Kd.R_new' ho0 (Kd.R_lt (by (with_reducible repeat (first | apply Kd.R_alloc | apply Kd.R_drewN | apply Kd.R_drew)); exact (Kd.R_mono (Kd.R_far (p := ⟨gb24120, 3, none⟩) (Kd.R_far (p := ⟨gb24120, 2, none⟩) (Kd.R_far (p := ⟨gb24120, 1, none⟩) (Kd.R_far (p := ⟨gb24120, 0, none⟩) (Kd.R_types HO24111.out BK24120.out (by decide)) (fun _ hk => hk.2) (.int .i64 t24114)) (fun _ hk => hk.2) (.int .i64 t24115)) (fun _ hk => hk.2) (.int .i64 t24116)) (fun _ hk => hk.2) (.slice Ao32 t24117.length co32)) (fun _ h_ => h_.1))))) (below_size (by repeat (first | (with_reducible first | exact HB.out | apply below_alloc | apply pw_below_drewN | apply below_drew1 | refine below_set ?_ GE24101.out | refine below_set ?_ GE24120.out) | exact HB.out)))); have n4_ := Aside0.mk (blk_below (g := gb24101) (o := .cells #[.int .i64 a0_0, .int .i64 a0_1, .int .i64 a0_2, .slice A0_3 l0_3.length c0_3] 24 (0, 0)) (by (with_reducible repeat (first | refine blk_drewN ?_ _ | refine blk_drew ?_ | refine blk_alloc ?_ _)); refine blk_far ?_ NB24101_24120.out _; (with_reducible repeat (first | refine blk_drewN ?_ _ | refine blk_drew ?_ | refine blk_alloc ?_ _)); refine blk_far ?_ NB24101_24120.out _; (with_reducible repeat (first | refine blk_drewN ?_ _ | refine blk_drew ?_ | refine blk_alloc ?_ _)); refine blk_far ?_ NB24101_24120.out _; (with_reducible repeat (first | refine blk_drewN ?_ _ | refine blk_drew ?_ | refine blk_alloc ?_ _)); refine blk_far ?_ NB24101_24120.out _; (with_reducible repeat (first | refine blk_drewN ?_ _ | refine blk_drew ?_ | refine blk_alloc ?_ _)); exact BK24101.out) hb); have n5_ := Aside0.mk (blk_below (g := gb24120) (o := .cells #[.int .i64 t24114, .int .i64 t24115, .int .i64 t24116, .slice Ao32 t24117.length co32] 32 (0, 0)) (by (with_reducible repeat (first | refine blk_drewN ?_ _ | refine blk_drew ?_ | refine blk_alloc ?_ _)); refine blk_put (cs := #[.int .i64 t24114, .int .i64 t24115, .int .i64 t24116, .slice none 0 0]) ?_ 3 _ rfl; (with_reducible repeat (first | refine blk_drewN ?_ _ | refine blk_drew ?_ | refine blk_alloc ?_ _)); refine blk_put (cs := #[.int .i64 t24114, .int .i64 t24115, .int .i64 0, .slice none 0 0]) ?_ 2 _ rfl; (with_reducible repeat (first | refine blk_drewN ?_ _ | refine blk_drew ?_ | refine blk_alloc ?_ _)); refine blk_put (cs := #[.int .i64 t24114, .int .i64 0, .int .i64 0, .slice none 0 0]) ?_ 1 _ rfl; (with_reducible repeat (first | refine blk_drewN ?_ _ | refine blk_drew ?_ | refine blk_alloc ?_ _)); refine blk_put (cs := #[.int .i64 0, .int .i64 0, .int .i64 0, .slice none 0 0]) ?_ 0 _ rfl; (with_reducible repeat (first | refine blk_drewN ?_ _ | refine blk_drew ?_ | refine blk_alloc ?_ _)); exact BK24120.out) hb); have n6_ := Aside0.mk (below_step (by repeat (first | (with_reducible first | exact HB.out | apply below_alloc | apply pw_below_drewN | apply below_drew1 | refine below_set ?_ GE24101.out | refine below_set ?_ GE24120.out) | exact HB.out)) hb); clear HO24108; clear HO24111; clear HO24119; clear BK24101; clear BK24120; clear HB; have HO24108 := n0_; have HO24111 := n1_; have HO24119 := n2_; have HO24123 := n3_; have BK24101 := n4_; have BK24120 := n5_; have HB := n6_; clear n0_ n1_ n2_ n3_ n4_ n5_ n6_; (try clear hb); (try clear hb2); (try clear hk); (try clear hi); (try clear ho0); have hcz34_0 : w33.cell? ⟨gb24120, 0, none⟩ = some (.int .i64 t24114) := (blk_cell BK24120.out 0).trans rfl; have hcz34_1 : w33.cell? ⟨gb24120, 1, none⟩ = some (.int .i64 t24115) := (blk_cell BK24120.out 1).trans rfl; have hcz34_2 : w33.cell? ⟨gb24120, 2, none⟩ = some (.int .i64 t24116) := (blk_cell BK24120.out 2).trans rfl; have hcz34_3 : w33.cell? ⟨gb24120, 3, none⟩ = some (.slice Ao32 t24117.length co32) := (blk_cell BK24120.out 3).trans rfl; have hfz34_0 := blk_frozen BK24120.out 0; have hfz34_1 := blk_frozen BK24120.out 1; have hfz34_2 := blk_frozen BK24120.out 2; have hfz34_3 := blk_frozen BK24120.out 3; obtain ⟨Ao35, co35, eo35⟩ := Kd.R_slice HO24123.out; subst eo35) | ((with_reducible refine gate_callee (f := 72) rfl ?_); refine goesL_ (some 39) rfl rfl Try.func72 (by kernel_rfl) rfl #[.agg #[.int .i64 t24114, .int .i64 t24115, .int .i64 t24116, .slice Ao32 t24117.length co32], .int .i64 a1, .slice Ao35 t24121.length co35] rfl (by (try simp only [List.map_toArray, List.map_cons, List.map_nil]); first | done | rfl | (simp only [List.length_drop, List.length_take]; rfl)) ?_; (with_reducible refine (impl_PlayThrows.calls k t24114 t24115 t24116 _ _ t24117 a1 _ _ t24121 t24124 t24125 _ ?side1 ?side2 ?side3 ?side4 A16.out).mono ?_); (case side1 => repeat (first | exact (Kd.R_reads' HO24119.out).2.2 | (with_reducible refine Kd.C_alloc ?_ _) | (with_reducible refine Kd.C_drewN ?_ _) | (with_reducible refine Kd.C_drew ?_))); (case side2 => exact (Kd.R_reads' HO24119.out).2.1); (case side3 => repeat (first | exact (Kd.R_reads' HO24123.out).2.2 | (with_reducible refine Kd.C_alloc ?_ _) | (with_reducible refine Kd.C_drewN ?_ _) | (with_reducible refine Kd.C_drew ?_))); (case side4 => exact (Kd.R_reads' HO24123.out).2.1); rintro e w36 ⟨rfl, hb⟩; refine ⟨_, rfl, ?_⟩; have n0_ := Aside0.mk (Kd.R_below (by (with_reducible repeat (first | apply Kd.R_alloc | apply Kd.R_drewN | apply Kd.R_drew)); exact HO24108.out) hb); have n1_ := Aside0.mk (Kd.R_below (by (with_reducible repeat (first | apply Kd.R_alloc | apply Kd.R_drewN | apply Kd.R_drew)); exact HO24111.out) hb); have n2_ := Aside0.mk (Kd.R_below (by (with_reducible repeat (first | apply Kd.R_alloc | apply Kd.R_drewN | apply Kd.R_drew)); exact HO24119.out) hb); have n3_ := Aside0.mk (Kd.R_below (by (with_reducible repeat (first | apply Kd.R_alloc | apply Kd.R_drewN | apply Kd.R_drew)); exact HO24123.out) hb); have n4_ := Aside0.mk (blk_below (g := gb24101) (o := .cells #[.int .i64 a0_0, .int .i64 a0_1, .int .i64 a0_2, .slice A0_3 l0_3.length c0_3] 24 (0, 0)) (by (with_reducible repeat (first | refine blk_drewN ?_ _ | refine blk_drew ?_ | refine blk_alloc ?_ _)); exact BK24101.out) hb); have n5_ := Aside0.mk (blk_below (g := gb24120) (o := .cells #[.int .i64 t24114, .int .i64 t24115, .int .i64 t24116, .slice Ao32 t24117.length co32] 32 (0, 0)) (by (with_reducible repeat (first | refine blk_drewN ?_ _ | refine blk_drew ?_ | refine blk_alloc ?_ _)); exact BK24120.out) hb); have n6_ := Aside0.mk (below_step (by repeat (first | (with_reducible first | exact HB.out | apply below_alloc | apply pw_below_drewN | apply below_drew1 | refine below_set ?_ GE24101.out | refine below_set ?_ GE24120.out) | exact HB.out)) hb); clear HO24108; clear HO24111; clear HO24119; clear HO24123; clear BK24101; clear BK24120; clear HB; have HO24108 := n0_; have HO24111 := n1_; have HO24119 := n2_; have HO24123 := n3_; have BK24101 := n4_; have BK24120 := n5_; have HB := n6_; clear n0_ n1_ n2_ n3_ n4_ n5_ n6_; (try clear hb); (try clear hb2); (try clear hk); (try clear hi)))
      (try simp only [Act.put, List.setIfInBounds_toArray, List.set_cons_zero, List.set_cons_succ])
      go_cut [49] (fun v49 wc => ∃ (kq : Nat) (x49_16 : Bool), v49 = .bool x49_16 ∧ Aside0 (laws_FnExactPlayThrows.j0 kq l2 t24121 x49_16 a0_0 a0_1 a0_2 l0_3 t24114 t24115 t24116 t24117 = some r) ∧ Aside0 (kq ≤ k) ∧ Aside0 (Kd.R (Kd.int .i64) 3 wc w.heap.size (fun _ => True) (.slice Ao35 t24121.length co35) t24121) ∧ Aside0 (Kd.R k27 27 wc w.heap.size (fun _ => True) (.slice Ao32 t24117.length co32) t24117) ∧ Aside0 (wc.heap[gb24101]? = some (.cells #[.int .i64 a0_0, .int .i64 a0_1, .int .i64 a0_2, (.slice A0_3 l0_3.length c0_3)] 24 (0, 0))) ∧ Aside0 (wc.heap[gb24120]? = some (.cells #[.int .i64 t24114, .int .i64 t24115, .int .i64 t24116, (.slice Ao32 t24117.length co32)] 32 (0, 0))) ∧ Aside0 (Below w.heap.size w wc))
      case first =>
        have H := HC17.out
        clear HC17
        by_cases c37 : t24124 = t24112
        · rw [if_pos c37] at H
          have c37b0 : (t24124 == t24112) = true := beq_iff_eq.mpr c37
          have c37b1 : (t24124 != t24112) = false := bne_eq_false_iff_eq.mpr c37
          clear c37
          (first | rw [c37b0] | (simp only [i64_w, i32_w]; rw [c37b0]) | skip)
          have H' := Aside0.mk H
          clear H
          go_wp2
          go_meet
          case rel => exact ⟨_, ((t24125 != t24113)), (by first | rfl | (simp; done) | (simp [*]; done)), H', ⟨by first | omega | exact Nat.le_refl _⟩, ⟨by (with_reducible repeat (first | apply Kd.R_alloc | apply Kd.R_drewN | apply Kd.R_drew)); exact Kd.R_mono HO24123.out (fun _ hk => trivial)⟩, ⟨by (with_reducible repeat (first | apply Kd.R_alloc | apply Kd.R_drewN | apply Kd.R_drew)); exact Kd.R_mono HO24119.out (fun _ hk => trivial)⟩, ⟨by (with_reducible repeat (first | refine blk_drewN ?_ _ | refine blk_drew ?_ | refine blk_alloc ?_ _)); exact BK24101.out⟩, ⟨by (with_reducible repeat (first | refine blk_drewN ?_ _ | refine blk_drew ?_ | refine blk_alloc ?_ _)); exact BK24120.out⟩, ⟨by repeat (first | (with_reducible first | exact HB.out | apply below_alloc | apply pw_below_drewN | apply below_drew1 | refine below_set ?_ GE24101.out | refine below_set ?_ GE24120.out) | exact HB.out)⟩⟩
        · rw [if_neg c37] at H
          have c37b0 : (t24124 == t24112) = false := beq_eq_false_iff_ne.mpr c37
          have c37b1 : (t24124 != t24112) = true := bne_iff_ne.mpr c37
          (first | rw [c37b0] | (simp only [i64_w, i32_w]; rw [c37b0]) | skip)
          have H' := Aside0.mk H
          clear H
          go_wp2
          go_meet
          case rel => exact ⟨_, (true), (by first | rfl | (simp; done) | (simp [*]; done)), H', ⟨by first | omega | exact Nat.le_refl _⟩, ⟨by (with_reducible repeat (first | apply Kd.R_alloc | apply Kd.R_drewN | apply Kd.R_drew)); exact Kd.R_mono HO24123.out (fun _ hk => trivial)⟩, ⟨by (with_reducible repeat (first | apply Kd.R_alloc | apply Kd.R_drewN | apply Kd.R_drew)); exact Kd.R_mono HO24119.out (fun _ hk => trivial)⟩, ⟨by (with_reducible repeat (first | refine blk_drewN ?_ _ | refine blk_drew ?_ | refine blk_alloc ?_ _)); exact BK24101.out⟩, ⟨by (with_reducible repeat (first | refine blk_drewN ?_ _ | refine blk_drew ?_ | refine blk_alloc ?_ _)); exact BK24120.out⟩, ⟨by repeat (first | (with_reducible first | exact HB.out | apply below_alloc | apply pw_below_drewN | apply below_drew1 | refine below_set ?_ GE24101.out | refine below_set ?_ GE24120.out) | exact HB.out)⟩⟩
      case rest =>
        clear HC17
        try clear c1
        try clear c2
        try clear p2
        try clear c3
        try clear c4
        try clear c4b0
        try clear c4b1
        try clear c7
        try clear c7b0
        try clear c12
        try clear c30
        try clear c37
        try clear c37b0
        try clear c37b1
        try clear hcz19_0
        try clear hcz19_1
        try clear hcz19_2
        try clear hcz19_3
        try clear hcz21_0
        try clear hcz21_1
        try clear hcz21_2
        try clear hcz21_3
        try clear hcz27_0
        try clear hcz27_1
        try clear hcz27_2
        try clear hcz27_3
        try clear hcz31_0
        try clear hcz31_1
        try clear hcz31_2
        try clear hcz31_3
        try clear hcz34_0
        try clear hcz34_1
        try clear hcz34_2
        try clear hcz34_3
        try clear hcz9_0
        try clear hcz9_1
        try clear hcz9_2
        try clear hcz9_3
        try clear hfz19_0
        try clear hfz19_1
        try clear hfz19_2
        try clear hfz19_3
        try clear hfz21_0
        try clear hfz21_1
        try clear hfz21_2
        try clear hfz21_3
        try clear hfz27_0
        try clear hfz27_1
        try clear hfz27_2
        try clear hfz27_3
        try clear hfz31_0
        try clear hfz31_1
        try clear hfz31_2
        try clear hfz31_3
        try clear hfz34_0
        try clear hfz34_1
        try clear hfz34_2
        try clear hfz34_3
        try clear hfz9_0
        try clear hfz9_1
        try clear hfz9_2
        try clear hfz9_3
        obtain ⟨kq, x49_16, rfl, HA, HJ16, HO_11, HO_24121003, BK24101, BK24120, HB⟩ := hcut
        cases kq with
        | zero => exact absurd HA.out (by simp [laws_FnExactPlayThrows.j0])
        | succ kj16 =>
          have H := HA.out
          clear HA
          simp only [laws_FnExactPlayThrows.j0] at H
          by_cases c38 : x49_16 = true
          · subst c38
            have H1 : (some false) = some r := by rw [if_pos rfl] at H; exact H
            clear H
            have H := H1
            clear H1
            obtain rfl := Option.some.inj H
            go_wp2
            go_ret
            exact ⟨by first | rfl | (simp [errW_none, errW_some] <;> rfl) | (simp [*, errW_none, errW_some] <;> rfl), by repeat (first | (with_reducible first | exact HB.out | apply below_alloc | apply pw_below_drewN | apply below_drew1 | refine below_set ?_ GE24101.out | refine below_set ?_ GE24120.out) | exact HB.out)⟩
          · replace c38 := Bool.eq_false_iff.mpr c38
            subst c38
            have H1 : ((laws_toBoard.f kj16 a0_0 a0_1 a0_2 l0_3).bind fun bt24126 => ((laws_eqBoard.f kj16 t24114 t24115 t24116 t24117 bt24126.1 bt24126.2.1 bt24126.2.2.1 bt24126.2.2.2).bind fun t24132 => (if t24132 = true then ((laws_toIntS.f kj16 l2).bind fun t24133 => ((laws_eqIntS.f kj16 t24121 t24133).bind fun t24136 => (if t24136 = true then (some true) else (some false)))) else (some false)))) = some r := by rw [if_neg (show ¬ (false = true) by decide)] at H; exact H
            clear H
            have H := H1
            clear H1
            replace H := Option.bind_eq_some_iff.mp H
            obtain ⟨⟨t24126, t24127, t24128, t24129⟩, A390, H⟩ := H
            replace H : ((laws_eqBoard.f kj16 t24114 t24115 t24116 t24117 t24126 t24127 t24128 t24129).bind fun t24132 => (if t24132 = true then ((laws_toIntS.f kj16 l2).bind fun t24133 => ((laws_eqIntS.f kj16 t24121 t24133).bind fun t24136 => (if t24136 = true then (some true) else (some false)))) else (some false))) = some r := H
            have A39 := Aside0.mk A390
            clear A390
            replace H := Option.bind_eq_some_iff.mp H
            obtain ⟨t24132, A400, H⟩ := H
            replace H : (if t24132 = true then ((laws_toIntS.f kj16 l2).bind fun t24133 => ((laws_eqIntS.f kj16 t24121 t24133).bind fun t24136 => (if t24136 = true then (some true) else (some false)))) else (some false)) = some r := H
            have A40 := Aside0.mk A400
            clear A400
            by_cases c41 : t24132 = true
            · subst c41
              have H1 : ((laws_toIntS.f kj16 l2).bind fun t24133 => ((laws_eqIntS.f kj16 t24121 t24133).bind fun t24136 => (if t24136 = true then (some true) else (some false)))) = some r := by rw [if_pos rfl] at H; exact H
              clear H
              have H := H1
              clear H1
              replace H := Option.bind_eq_some_iff.mp H
              obtain ⟨t24133, A420, H⟩ := H
              replace H : ((laws_eqIntS.f kj16 t24121 t24133).bind fun t24136 => (if t24136 = true then (some true) else (some false))) = some r := H
              have A42 := Aside0.mk A420
              clear A420
              replace H := Option.bind_eq_some_iff.mp H
              obtain ⟨t24136, A430, H⟩ := H
              replace H : (if t24136 = true then (some true) else (some false)) = some r := H
              have A43 := Aside0.mk A430
              clear A430
              by_cases c44 : t24136 = true
              · subst c44
                have H1 : (some true) = some r := by rw [if_pos rfl] at H; exact H
                clear H
                have H := H1
                clear H1
                obtain rfl := Option.some.inj H
                try go_wp2
                have n0_ := Aside0.mk (Kd.R_drew HO_11.out)
                have n1_ := Aside0.mk (Kd.R_drew HO_24121003.out)
                have n2_ := Aside0.mk (blk_drew BK24101.out)
                have n3_ := Aside0.mk (blk_drew BK24120.out)
                have n4_ := Aside0.mk (below_drew1 HB.out)
                clear HO_11
                clear HO_24121003
                clear BK24101
                clear BK24120
                clear HB
                have HO_11 := n0_
                have HO_24121003 := n1_
                have BK24101 := n2_
                have BK24120 := n3_
                have HB := n4_
                clear n0_ n1_ n2_ n3_ n4_
                refine start_ (n := 5) (S := fun w' => w'.cell? ⟨gb24120, 0, none⟩ = some (.int .i64 t24114) ∧ w'.cell? ⟨gb24120, 1, none⟩ = some (.int .i64 t24115) ∧ w'.cell? ⟨gb24120, 2, none⟩ = some (.int .i64 t24116) ∧ w'.cell? ⟨gb24120, 3, none⟩ = some (.slice Ao32 t24117.length co32) ∧ w'.cell? ⟨gb24101, 0, none⟩ = some (.int .i64 a0_0) ∧ w'.cell? ⟨gb24101, 1, none⟩ = some (.int .i64 a0_1) ∧ w'.cell? ⟨gb24101, 2, none⟩ = some (.int .i64 a0_2) ∧ w'.cell? ⟨gb24101, 3, none⟩ = some (.slice A0_3 l0_3.length c0_3)) (ds := []) #[false, false, false, false, false] (by kernel_rfl) rfl rfl ⟨(blk_cell BK24120.out 0).trans rfl, (blk_cell BK24120.out 1).trans rfl, (blk_cell BK24120.out 2).trans rfl, (blk_cell BK24120.out 3).trans rfl, (blk_cell BK24101.out 0).trans rfl, (blk_cell BK24101.out 1).trans rfl, (blk_cell BK24101.out 2).trans rfl, (blk_cell BK24101.out 3).trans rfl⟩ (fun hHeld => ?_)
                generalize wc.drew = w45 at HO_11 HO_24121003 BK24101 BK24120 HB hHeld ⊢
                refine take_ (i := 0) (N := some 50) (v := ?_) (a' := ?_) #[true, false, false, false, false] rfl rfl (by kernel_rfl) (fun _ _ _ h => h) (Or.inl ⟨by rfl, ?_⟩) hHeld ?_ ?_
                rotate_left
                · rintro w' ⟨s0, s1, s2, s3, s4, s5, s6, s7⟩
                  go_simp
                  with_reducible rfl
                rotate_left
                · simp only [Act.put, List.setIfInBounds_toArray, List.set_cons_zero, List.set_cons_succ, i64_w, i32_w]
                  rfl
                refine take_ (i := 1) (N := some 51) (v := ?_) (a' := ?_) #[true, true, false, false, false] rfl rfl (by kernel_rfl) (fun _ _ _ h => h) (Or.inl ⟨by rfl, ?_⟩) hHeld ?_ ?_
                rotate_left
                · rintro w' ⟨s0, s1, s2, s3, s4, s5, s6, s7⟩
                  go_simp
                  with_reducible rfl
                rotate_left
                · simp only [Act.put, List.setIfInBounds_toArray, List.set_cons_zero, List.set_cons_succ, i64_w, i32_w]
                  rfl
                refine one_ (i := 2) (N := some 52) #[true, true, true, false, false] rfl rfl (by kernel_rfl) (by decide) (fun K hK => ?_)
                refine goes_ Try.func39 (by kernel_rfl) rfl #[.agg #[.int .i64 a0_0, .int .i64 a0_1, .int .i64 a0_2, .slice A0_3 l0_3.length c0_3]] (by rfl) rfl rfl (by (try simp only [List.map_toArray, List.map_cons, List.map_nil]); first | done | rfl | (simp only [List.length_drop, List.length_take]; rfl)) ?_
                with_reducible refine (laws_toBoard.calls kj16 a0_0 a0_1 a0_2 _ _ l0_3 t24126 t24127 t24128 t24129 _ ?side1 ?side2 A39.out).mono ?_
                (case side1 => repeat (first | exact (Kd.C_below HR0_3.out HB.out) | (with_reducible refine Kd.C_alloc ?_ _) | (with_reducible refine Kd.C_drewN ?_ _) | (with_reducible refine Kd.C_drew ?_)))
                (case side2 => exact HC0_3.out)
                rintro e w46 ⟨v24130, rfl, ho0, hb⟩
                refine ⟨_, rfl, ?_⟩
                have n0_ := Aside0.mk (Kd.R_below (by (with_reducible repeat (first | apply Kd.R_alloc | apply Kd.R_drewN | apply Kd.R_drew)); exact HO_11.out) hb)
                have n1_ := Aside0.mk (Kd.R_elder' (by (with_reducible repeat (first | apply Kd.R_alloc | apply Kd.R_drewN | apply Kd.R_drew)); exact HO_24121003.out) (Kd.R_base ho0) hb)
                have n2_ := Aside0.mk (Kd.R_lower (Kd.R_new' ho0 (Kd.R_lt (by (with_reducible repeat (first | apply Kd.R_alloc | apply Kd.R_drewN | apply Kd.R_drew)); exact HO_24121003.out))) (below_size (by repeat (first | (with_reducible first | exact HB.out | apply below_alloc | apply pw_below_drewN | apply below_drew1 | refine below_set ?_ GE24101.out | refine below_set ?_ GE24120.out) | exact HB.out))))
                have n3_ := Aside0.mk (blk_below (g := gb24101) (o := .cells #[.int .i64 a0_0, .int .i64 a0_1, .int .i64 a0_2, .slice A0_3 l0_3.length c0_3] 24 (0, 0)) (by (with_reducible repeat (first | refine blk_drewN ?_ _ | refine blk_drew ?_ | refine blk_alloc ?_ _)); exact BK24101.out) hb)
                have n4_ := Aside0.mk (blk_below (g := gb24120) (o := .cells #[.int .i64 t24114, .int .i64 t24115, .int .i64 t24116, .slice Ao32 t24117.length co32] 32 (0, 0)) (by (with_reducible repeat (first | refine blk_drewN ?_ _ | refine blk_drew ?_ | refine blk_alloc ?_ _)); exact BK24120.out) hb)
                have n5_ := Aside0.mk (below_step (by repeat (first | (with_reducible first | exact HB.out | apply below_alloc | apply pw_below_drewN | apply below_drew1 | refine below_set ?_ GE24101.out | refine below_set ?_ GE24120.out) | exact HB.out)) hb)
                clear HO_11
                clear HO_24121003
                clear BK24101
                clear BK24120
                clear HB
                have HO_11 := n0_
                have HO_24121003 := n1_
                have HO24131 := n2_
                have BK24101 := n3_
                have BK24120 := n4_
                have HB := n5_
                clear n0_ n1_ n2_ n3_ n4_ n5_
                (try clear hb)
                (try clear hb2)
                (try clear hk)
                (try clear hi)
                (try clear ho0)
                obtain ⟨Ao47, co47, eo47⟩ := Kd.R_slice HO24131.out
                (first | subst eo47 | (injection eo47 with f1_ f2_ f3_; have f4_ := f1_.symm; have f5_ := f3_.symm; clear f1_ f2_ f3_; subst f4_; subst f5_))
                refine hK.out _ _ ⟨(blk_cell BK24120.out 0).trans rfl, (blk_cell BK24120.out 1).trans rfl, (blk_cell BK24120.out 2).trans rfl, (blk_cell BK24120.out 3).trans rfl, (blk_cell BK24101.out 0).trans rfl, (blk_cell BK24101.out 1).trans rfl, (blk_cell BK24101.out 2).trans rfl, (blk_cell BK24101.out 3).trans rfl⟩ (fun hHeld => ?_)
                clear hK K
                refine norm_ (a' := ?_) ?_ ?_
                rotate_left
                · show Act.put _ (some 52) _ = _
                  simp only [Act.put, List.setIfInBounds_toArray, List.set_cons_zero, List.set_cons_succ, i64_w, i32_w]
                  rfl
                refine one_ (i := 3) (N := some 53) #[true, true, true, true, false] rfl rfl (by kernel_rfl) (by decide) (fun K hK => ?_)
                refine goes_ Try.func42 (by kernel_rfl) rfl #[.agg #[.int .i64 t24114, .int .i64 t24115, .int .i64 t24116, .slice Ao32 t24117.length co32], .agg #[.int .i64 t24126, .int .i64 t24127, .int .i64 t24128, .slice Ao47 t24129.length co47]] (by rfl) rfl rfl (by (try simp only [List.map_toArray, List.map_cons, List.map_nil]); first | done | rfl | (simp only [List.length_drop, List.length_take]; rfl)) ?_
                with_reducible refine (laws_eqBoard.calls kj16 t24114 t24115 t24116 _ _ t24117 t24126 t24127 t24128 _ _ t24129 true _ ?side1 ?side2 ?side3 ?side4 A40.out).mono ?_
                (case side1 => repeat (first | exact (Kd.R_reads' HO_24121003.out).2.2 | (with_reducible refine Kd.C_alloc ?_ _) | (with_reducible refine Kd.C_drewN ?_ _) | (with_reducible refine Kd.C_drew ?_)))
                (case side2 => exact (Kd.R_reads' HO_24121003.out).2.1)
                (case side3 => repeat (first | exact (Kd.R_reads' HO24131.out).2.2 | (with_reducible refine Kd.C_alloc ?_ _) | (with_reducible refine Kd.C_drewN ?_ _) | (with_reducible refine Kd.C_drew ?_)))
                (case side4 => exact (Kd.R_reads' HO24131.out).2.1)
                rintro e w48 ⟨rfl, hb⟩
                refine ⟨_, rfl, ?_⟩
                have n0_ := Aside0.mk (Kd.R_below (by (with_reducible repeat (first | apply Kd.R_alloc | apply Kd.R_drewN | apply Kd.R_drew)); exact HO_11.out) hb)
                have n1_ := Aside0.mk (Kd.R_below (by (with_reducible repeat (first | apply Kd.R_alloc | apply Kd.R_drewN | apply Kd.R_drew)); exact HO_24121003.out) hb)
                have n2_ := Aside0.mk (Kd.R_below (by (with_reducible repeat (first | apply Kd.R_alloc | apply Kd.R_drewN | apply Kd.R_drew)); exact HO24131.out) hb)
                have n3_ := Aside0.mk (blk_below (g := gb24101) (o := .cells #[.int .i64 a0_0, .int .i64 a0_1, .int .i64 a0_2, .slice A0_3 l0_3.length c0_3] 24 (0, 0)) (by (with_reducible repeat (first | refine blk_drewN ?_ _ | refine blk_drew ?_ | refine blk_alloc ?_ _)); exact BK24101.out) hb)
                have n4_ := Aside0.mk (blk_below (g := gb24120) (o := .cells #[.int .i64 t24114, .int .i64 t24115, .int .i64 t24116, .slice Ao32 t24117.length co32] 32 (0, 0)) (by (with_reducible repeat (first | refine blk_drewN ?_ _ | refine blk_drew ?_ | refine blk_alloc ?_ _)); exact BK24120.out) hb)
                have n5_ := Aside0.mk (below_step (by repeat (first | (with_reducible first | exact HB.out | apply below_alloc | apply pw_below_drewN | apply below_drew1 | refine below_set ?_ GE24101.out | refine below_set ?_ GE24120.out) | exact HB.out)) hb)
                clear HO_11
                clear HO_24121003
                clear HO24131
                clear BK24101
                clear BK24120
                clear HB
                have HO_11 := n0_
                have HO_24121003 := n1_
                have HO24131 := n2_
                have BK24101 := n3_
                have BK24120 := n4_
                have HB := n5_
                clear n0_ n1_ n2_ n3_ n4_ n5_
                (try clear hb)
                (try clear hb2)
                (try clear hk)
                (try clear hi)
                refine hK.out _ _ ⟨(blk_cell BK24120.out 0).trans rfl, (blk_cell BK24120.out 1).trans rfl, (blk_cell BK24120.out 2).trans rfl, (blk_cell BK24120.out 3).trans rfl, (blk_cell BK24101.out 0).trans rfl, (blk_cell BK24101.out 1).trans rfl, (blk_cell BK24101.out 2).trans rfl, (blk_cell BK24101.out 3).trans rfl⟩ (fun hHeld => ?_)
                clear hK K
                refine norm_ (a' := ?_) ?_ ?_
                rotate_left
                · show Act.put _ (some 53) _ = _
                  simp only [Act.put, List.setIfInBounds_toArray, List.set_cons_zero, List.set_cons_succ, i64_w, i32_w]
                  rfl
                refine pure_ (i := 4) (N := some 54) (v := ?_) (a' := ?_) #[true, true, true, true, true] rfl rfl (by kernel_rfl) (fun _ _ _ h => h) (Or.inl ⟨by rfl, ?_⟩) ?_ ?_
                rotate_left
                · intro w'
                  go_simp
                  with_reducible rfl
                rotate_left
                · simp only [Act.put, List.setIfInBounds_toArray, List.set_cons_zero, List.set_cons_succ, i64_w, i32_w]
                  rfl
                refine done_ (by kernel_rfl) ?_
                try go_wp2_with (first | ((with_reducible refine gate_callee (f := 71) rfl ?_); refine goesL_ (some 57) rfl rfl Try.func71 (by kernel_rfl) rfl #[.slice A2 l2.length c2] rfl (by (try simp only [List.map_toArray, List.map_cons, List.map_nil]); first | done | rfl | (simp only [List.length_drop, List.length_take]; rfl)) ?_; (with_reducible refine (laws_toIntS.calls kj16 _ _ l2 t24133 _ ?side1 ?side2 A42.out).mono ?_); (case side1 => repeat (first | exact (Kd.C_below HR2.out HB.out) | (with_reducible refine Kd.C_alloc ?_ _) | (with_reducible refine Kd.C_drewN ?_ _) | (with_reducible refine Kd.C_drew ?_))); (case side2 => exact HC2.out); rintro e w49 ⟨v24134, rfl, ho0, hb⟩; refine ⟨_, rfl, ?_⟩; have n0_ := Aside0.mk (Kd.R_elder' (by (with_reducible repeat (first | apply Kd.R_alloc | apply Kd.R_drewN | apply Kd.R_drew)); exact HO_11.out) (Kd.R_base ho0) hb); have n1_ := Aside0.mk (Kd.R_below (by (with_reducible repeat (first | apply Kd.R_alloc | apply Kd.R_drewN | apply Kd.R_drew)); exact HO_24121003.out) hb); have n2_ := Aside0.mk (Kd.R_below (by (with_reducible repeat (first | apply Kd.R_alloc | apply Kd.R_drewN | apply Kd.R_drew)); exact HO24131.out) hb); have n3_ := Aside0.mk (Kd.R_lower (Kd.R_new' ho0 (Kd.R_lt (by (with_reducible repeat (first | apply Kd.R_alloc | apply Kd.R_drewN | apply Kd.R_drew)); exact HO_11.out))) (below_size (by repeat (first | (with_reducible first | exact HB.out | apply below_alloc | apply pw_below_drewN | apply below_drew1 | refine below_set ?_ GE24101.out | refine below_set ?_ GE24120.out) | exact HB.out)))); have n4_ := Aside0.mk (blk_below (g := gb24101) (o := .cells #[.int .i64 a0_0, .int .i64 a0_1, .int .i64 a0_2, .slice A0_3 l0_3.length c0_3] 24 (0, 0)) (by (with_reducible repeat (first | refine blk_drewN ?_ _ | refine blk_drew ?_ | refine blk_alloc ?_ _)); exact BK24101.out) hb); have n5_ := Aside0.mk (blk_below (g := gb24120) (o := .cells #[.int .i64 t24114, .int .i64 t24115, .int .i64 t24116, .slice Ao32 t24117.length co32] 32 (0, 0)) (by (with_reducible repeat (first | refine blk_drewN ?_ _ | refine blk_drew ?_ | refine blk_alloc ?_ _)); exact BK24120.out) hb); have n6_ := Aside0.mk (below_step (by repeat (first | (with_reducible first | exact HB.out | apply below_alloc | apply pw_below_drewN | apply below_drew1 | refine below_set ?_ GE24101.out | refine below_set ?_ GE24120.out) | exact HB.out)) hb); clear HO_11; clear HO_24121003; clear HO24131; clear BK24101; clear BK24120; clear HB; have HO_11 := n0_; have HO_24121003 := n1_; have HO24131 := n2_; have HO24135 := n3_; have BK24101 := n4_; have BK24120 := n5_; have HB := n6_; clear n0_ n1_ n2_ n3_ n4_ n5_ n6_; (try clear hb); (try clear hb2); (try clear hk); (try clear hi); (try clear ho0); obtain ⟨Ao50, co50, eo50⟩ := Kd.R_slice HO24135.out; subst eo50) | ((with_reducible refine gate_callee (f := 67) rfl ?_); refine goesL_ (some 58) rfl rfl Try.func67 (by kernel_rfl) rfl #[.slice Ao35 t24121.length co35, .slice Ao50 t24133.length co50] rfl (by (try simp only [List.map_toArray, List.map_cons, List.map_nil]); first | done | rfl | (simp only [List.length_drop, List.length_take]; rfl)) ?_; (with_reducible refine (laws_eqIntS.calls kj16 _ _ t24121 _ _ t24133 true _ ?side1 ?side2 ?side3 ?side4 A43.out).mono ?_); (case side1 => repeat (first | exact (Kd.R_reads' HO_11.out).2.2 | (with_reducible refine Kd.C_alloc ?_ _) | (with_reducible refine Kd.C_drewN ?_ _) | (with_reducible refine Kd.C_drew ?_))); (case side2 => exact (Kd.R_reads' HO_11.out).2.1); (case side3 => repeat (first | exact (Kd.R_reads' HO24135.out).2.2 | (with_reducible refine Kd.C_alloc ?_ _) | (with_reducible refine Kd.C_drewN ?_ _) | (with_reducible refine Kd.C_drew ?_))); (case side4 => exact (Kd.R_reads' HO24135.out).2.1); rintro e w' ⟨rfl, ⟨nd, rfl⟩⟩; refine ⟨_, rfl, ?_⟩))
                go_ret
                exact ⟨by first | rfl | (simp [errW_none, errW_some] <;> rfl) | (simp [*, errW_none, errW_some] <;> rfl), by repeat (first | (with_reducible first | exact HB.out | apply below_alloc | apply pw_below_drewN | apply below_drew1 | refine below_set ?_ GE24101.out | refine below_set ?_ GE24120.out) | exact HB.out)⟩
              · replace c44 := Bool.eq_false_iff.mpr c44
                subst c44
                have H1 : (some false) = some r := by rw [if_neg (show ¬ (false = true) by decide)] at H; exact H
                clear H
                have H := H1
                clear H1
                obtain rfl := Option.some.inj H
                try go_wp2
                have n0_ := Aside0.mk (Kd.R_drew HO_11.out)
                have n1_ := Aside0.mk (Kd.R_drew HO_24121003.out)
                have n2_ := Aside0.mk (blk_drew BK24101.out)
                have n3_ := Aside0.mk (blk_drew BK24120.out)
                have n4_ := Aside0.mk (below_drew1 HB.out)
                clear HO_11
                clear HO_24121003
                clear BK24101
                clear BK24120
                clear HB
                have HO_11 := n0_
                have HO_24121003 := n1_
                have BK24101 := n2_
                have BK24120 := n3_
                have HB := n4_
                clear n0_ n1_ n2_ n3_ n4_
                refine start_ (n := 5) (S := fun w' => w'.cell? ⟨gb24120, 0, none⟩ = some (.int .i64 t24114) ∧ w'.cell? ⟨gb24120, 1, none⟩ = some (.int .i64 t24115) ∧ w'.cell? ⟨gb24120, 2, none⟩ = some (.int .i64 t24116) ∧ w'.cell? ⟨gb24120, 3, none⟩ = some (.slice Ao32 t24117.length co32) ∧ w'.cell? ⟨gb24101, 0, none⟩ = some (.int .i64 a0_0) ∧ w'.cell? ⟨gb24101, 1, none⟩ = some (.int .i64 a0_1) ∧ w'.cell? ⟨gb24101, 2, none⟩ = some (.int .i64 a0_2) ∧ w'.cell? ⟨gb24101, 3, none⟩ = some (.slice A0_3 l0_3.length c0_3)) (ds := []) #[false, false, false, false, false] (by kernel_rfl) rfl rfl ⟨(blk_cell BK24120.out 0).trans rfl, (blk_cell BK24120.out 1).trans rfl, (blk_cell BK24120.out 2).trans rfl, (blk_cell BK24120.out 3).trans rfl, (blk_cell BK24101.out 0).trans rfl, (blk_cell BK24101.out 1).trans rfl, (blk_cell BK24101.out 2).trans rfl, (blk_cell BK24101.out 3).trans rfl⟩ (fun hHeld => ?_)
                generalize wc.drew = w51 at HO_11 HO_24121003 BK24101 BK24120 HB hHeld ⊢
                refine take_ (i := 0) (N := some 50) (v := ?_) (a' := ?_) #[true, false, false, false, false] rfl rfl (by kernel_rfl) (fun _ _ _ h => h) (Or.inl ⟨by rfl, ?_⟩) hHeld ?_ ?_
                rotate_left
                · rintro w' ⟨s0, s1, s2, s3, s4, s5, s6, s7⟩
                  go_simp
                  with_reducible rfl
                rotate_left
                · simp only [Act.put, List.setIfInBounds_toArray, List.set_cons_zero, List.set_cons_succ, i64_w, i32_w]
                  rfl
                refine take_ (i := 1) (N := some 51) (v := ?_) (a' := ?_) #[true, true, false, false, false] rfl rfl (by kernel_rfl) (fun _ _ _ h => h) (Or.inl ⟨by rfl, ?_⟩) hHeld ?_ ?_
                rotate_left
                · rintro w' ⟨s0, s1, s2, s3, s4, s5, s6, s7⟩
                  go_simp
                  with_reducible rfl
                rotate_left
                · simp only [Act.put, List.setIfInBounds_toArray, List.set_cons_zero, List.set_cons_succ, i64_w, i32_w]
                  rfl
                refine one_ (i := 2) (N := some 52) #[true, true, true, false, false] rfl rfl (by kernel_rfl) (by decide) (fun K hK => ?_)
                refine goes_ Try.func39 (by kernel_rfl) rfl #[.agg #[.int .i64 a0_0, .int .i64 a0_1, .int .i64 a0_2, .slice A0_3 l0_3.length c0_3]] (by rfl) rfl rfl (by (try simp only [List.map_toArray, List.map_cons, List.map_nil]); first | done | rfl | (simp only [List.length_drop, List.length_take]; rfl)) ?_
                with_reducible refine (laws_toBoard.calls kj16 a0_0 a0_1 a0_2 _ _ l0_3 t24126 t24127 t24128 t24129 _ ?side1 ?side2 A39.out).mono ?_
                (case side1 => repeat (first | exact (Kd.C_below HR0_3.out HB.out) | (with_reducible refine Kd.C_alloc ?_ _) | (with_reducible refine Kd.C_drewN ?_ _) | (with_reducible refine Kd.C_drew ?_)))
                (case side2 => exact HC0_3.out)
                rintro e w52 ⟨v24130, rfl, ho0, hb⟩
                refine ⟨_, rfl, ?_⟩
                have n0_ := Aside0.mk (Kd.R_below (by (with_reducible repeat (first | apply Kd.R_alloc | apply Kd.R_drewN | apply Kd.R_drew)); exact HO_11.out) hb)
                have n1_ := Aside0.mk (Kd.R_elder' (by (with_reducible repeat (first | apply Kd.R_alloc | apply Kd.R_drewN | apply Kd.R_drew)); exact HO_24121003.out) (Kd.R_base ho0) hb)
                have n2_ := Aside0.mk (Kd.R_lower (Kd.R_new' ho0 (Kd.R_lt (by (with_reducible repeat (first | apply Kd.R_alloc | apply Kd.R_drewN | apply Kd.R_drew)); exact HO_24121003.out))) (below_size (by repeat (first | (with_reducible first | exact HB.out | apply below_alloc | apply pw_below_drewN | apply below_drew1 | refine below_set ?_ GE24101.out | refine below_set ?_ GE24120.out) | exact HB.out))))
                have n3_ := Aside0.mk (blk_below (g := gb24101) (o := .cells #[.int .i64 a0_0, .int .i64 a0_1, .int .i64 a0_2, .slice A0_3 l0_3.length c0_3] 24 (0, 0)) (by (with_reducible repeat (first | refine blk_drewN ?_ _ | refine blk_drew ?_ | refine blk_alloc ?_ _)); exact BK24101.out) hb)
                have n4_ := Aside0.mk (blk_below (g := gb24120) (o := .cells #[.int .i64 t24114, .int .i64 t24115, .int .i64 t24116, .slice Ao32 t24117.length co32] 32 (0, 0)) (by (with_reducible repeat (first | refine blk_drewN ?_ _ | refine blk_drew ?_ | refine blk_alloc ?_ _)); exact BK24120.out) hb)
                have n5_ := Aside0.mk (below_step (by repeat (first | (with_reducible first | exact HB.out | apply below_alloc | apply pw_below_drewN | apply below_drew1 | refine below_set ?_ GE24101.out | refine below_set ?_ GE24120.out) | exact HB.out)) hb)
                clear HO_11
                clear HO_24121003
                clear BK24101
                clear BK24120
                clear HB
                have HO_11 := n0_
                have HO_24121003 := n1_
                have HO24131 := n2_
                have BK24101 := n3_
                have BK24120 := n4_
                have HB := n5_
                clear n0_ n1_ n2_ n3_ n4_ n5_
                (try clear hb)
                (try clear hb2)
                (try clear hk)
                (try clear hi)
                (try clear ho0)
                obtain ⟨Ao53, co53, eo53⟩ := Kd.R_slice HO24131.out
                (first | subst eo53 | (injection eo53 with f1_ f2_ f3_; have f4_ := f1_.symm; have f5_ := f3_.symm; clear f1_ f2_ f3_; subst f4_; subst f5_))
                refine hK.out _ _ ⟨(blk_cell BK24120.out 0).trans rfl, (blk_cell BK24120.out 1).trans rfl, (blk_cell BK24120.out 2).trans rfl, (blk_cell BK24120.out 3).trans rfl, (blk_cell BK24101.out 0).trans rfl, (blk_cell BK24101.out 1).trans rfl, (blk_cell BK24101.out 2).trans rfl, (blk_cell BK24101.out 3).trans rfl⟩ (fun hHeld => ?_)
                clear hK K
                refine norm_ (a' := ?_) ?_ ?_
                rotate_left
                · show Act.put _ (some 52) _ = _
                  simp only [Act.put, List.setIfInBounds_toArray, List.set_cons_zero, List.set_cons_succ, i64_w, i32_w]
                  rfl
                refine one_ (i := 3) (N := some 53) #[true, true, true, true, false] rfl rfl (by kernel_rfl) (by decide) (fun K hK => ?_)
                refine goes_ Try.func42 (by kernel_rfl) rfl #[.agg #[.int .i64 t24114, .int .i64 t24115, .int .i64 t24116, .slice Ao32 t24117.length co32], .agg #[.int .i64 t24126, .int .i64 t24127, .int .i64 t24128, .slice Ao53 t24129.length co53]] (by rfl) rfl rfl (by (try simp only [List.map_toArray, List.map_cons, List.map_nil]); first | done | rfl | (simp only [List.length_drop, List.length_take]; rfl)) ?_
                with_reducible refine (laws_eqBoard.calls kj16 t24114 t24115 t24116 _ _ t24117 t24126 t24127 t24128 _ _ t24129 true _ ?side1 ?side2 ?side3 ?side4 A40.out).mono ?_
                (case side1 => repeat (first | exact (Kd.R_reads' HO_24121003.out).2.2 | (with_reducible refine Kd.C_alloc ?_ _) | (with_reducible refine Kd.C_drewN ?_ _) | (with_reducible refine Kd.C_drew ?_)))
                (case side2 => exact (Kd.R_reads' HO_24121003.out).2.1)
                (case side3 => repeat (first | exact (Kd.R_reads' HO24131.out).2.2 | (with_reducible refine Kd.C_alloc ?_ _) | (with_reducible refine Kd.C_drewN ?_ _) | (with_reducible refine Kd.C_drew ?_)))
                (case side4 => exact (Kd.R_reads' HO24131.out).2.1)
                rintro e w54 ⟨rfl, hb⟩
                refine ⟨_, rfl, ?_⟩
                have n0_ := Aside0.mk (Kd.R_below (by (with_reducible repeat (first | apply Kd.R_alloc | apply Kd.R_drewN | apply Kd.R_drew)); exact HO_11.out) hb)
                have n1_ := Aside0.mk (Kd.R_below (by (with_reducible repeat (first | apply Kd.R_alloc | apply Kd.R_drewN | apply Kd.R_drew)); exact HO_24121003.out) hb)
                have n2_ := Aside0.mk (Kd.R_below (by (with_reducible repeat (first | apply Kd.R_alloc | apply Kd.R_drewN | apply Kd.R_drew)); exact HO24131.out) hb)
                have n3_ := Aside0.mk (blk_below (g := gb24101) (o := .cells #[.int .i64 a0_0, .int .i64 a0_1, .int .i64 a0_2, .slice A0_3 l0_3.length c0_3] 24 (0, 0)) (by (with_reducible repeat (first | refine blk_drewN ?_ _ | refine blk_drew ?_ | refine blk_alloc ?_ _)); exact BK24101.out) hb)
                have n4_ := Aside0.mk (blk_below (g := gb24120) (o := .cells #[.int .i64 t24114, .int .i64 t24115, .int .i64 t24116, .slice Ao32 t24117.length co32] 32 (0, 0)) (by (with_reducible repeat (first | refine blk_drewN ?_ _ | refine blk_drew ?_ | refine blk_alloc ?_ _)); exact BK24120.out) hb)
                have n5_ := Aside0.mk (below_step (by repeat (first | (with_reducible first | exact HB.out | apply below_alloc | apply pw_below_drewN | apply below_drew1 | refine below_set ?_ GE24101.out | refine below_set ?_ GE24120.out) | exact HB.out)) hb)
                clear HO_11
                clear HO_24121003
                clear HO24131
                clear BK24101
                clear BK24120
                clear HB
                have HO_11 := n0_
                have HO_24121003 := n1_
                have HO24131 := n2_
                have BK24101 := n3_
                have BK24120 := n4_
                have HB := n5_
                clear n0_ n1_ n2_ n3_ n4_ n5_
                (try clear hb)
                (try clear hb2)
                (try clear hk)
                (try clear hi)
                refine hK.out _ _ ⟨(blk_cell BK24120.out 0).trans rfl, (blk_cell BK24120.out 1).trans rfl, (blk_cell BK24120.out 2).trans rfl, (blk_cell BK24120.out 3).trans rfl, (blk_cell BK24101.out 0).trans rfl, (blk_cell BK24101.out 1).trans rfl, (blk_cell BK24101.out 2).trans rfl, (blk_cell BK24101.out 3).trans rfl⟩ (fun hHeld => ?_)
                clear hK K
                refine norm_ (a' := ?_) ?_ ?_
                rotate_left
                · show Act.put _ (some 53) _ = _
                  simp only [Act.put, List.setIfInBounds_toArray, List.set_cons_zero, List.set_cons_succ, i64_w, i32_w]
                  rfl
                refine pure_ (i := 4) (N := some 54) (v := ?_) (a' := ?_) #[true, true, true, true, true] rfl rfl (by kernel_rfl) (fun _ _ _ h => h) (Or.inl ⟨by rfl, ?_⟩) ?_ ?_
                rotate_left
                · intro w'
                  go_simp
                  with_reducible rfl
                rotate_left
                · simp only [Act.put, List.setIfInBounds_toArray, List.set_cons_zero, List.set_cons_succ, i64_w, i32_w]
                  rfl
                refine done_ (by kernel_rfl) ?_
                try go_wp2_with (first | ((with_reducible refine gate_callee (f := 71) rfl ?_); refine goesL_ (some 57) rfl rfl Try.func71 (by kernel_rfl) rfl #[.slice A2 l2.length c2] rfl (by (try simp only [List.map_toArray, List.map_cons, List.map_nil]); first | done | rfl | (simp only [List.length_drop, List.length_take]; rfl)) ?_; (with_reducible refine (laws_toIntS.calls kj16 _ _ l2 t24133 _ ?side1 ?side2 A42.out).mono ?_); (case side1 => repeat (first | exact (Kd.C_below HR2.out HB.out) | (with_reducible refine Kd.C_alloc ?_ _) | (with_reducible refine Kd.C_drewN ?_ _) | (with_reducible refine Kd.C_drew ?_))); (case side2 => exact HC2.out); rintro e w55 ⟨v24134, rfl, ho0, hb⟩; refine ⟨_, rfl, ?_⟩; have n0_ := Aside0.mk (Kd.R_elder' (by (with_reducible repeat (first | apply Kd.R_alloc | apply Kd.R_drewN | apply Kd.R_drew)); exact HO_11.out) (Kd.R_base ho0) hb); have n1_ := Aside0.mk (Kd.R_below (by (with_reducible repeat (first | apply Kd.R_alloc | apply Kd.R_drewN | apply Kd.R_drew)); exact HO_24121003.out) hb); have n2_ := Aside0.mk (Kd.R_below (by (with_reducible repeat (first | apply Kd.R_alloc | apply Kd.R_drewN | apply Kd.R_drew)); exact HO24131.out) hb); have n3_ := Aside0.mk (Kd.R_lower (Kd.R_new' ho0 (Kd.R_lt (by (with_reducible repeat (first | apply Kd.R_alloc | apply Kd.R_drewN | apply Kd.R_drew)); exact HO_11.out))) (below_size (by repeat (first | (with_reducible first | exact HB.out | apply below_alloc | apply pw_below_drewN | apply below_drew1 | refine below_set ?_ GE24101.out | refine below_set ?_ GE24120.out) | exact HB.out)))); have n4_ := Aside0.mk (blk_below (g := gb24101) (o := .cells #[.int .i64 a0_0, .int .i64 a0_1, .int .i64 a0_2, .slice A0_3 l0_3.length c0_3] 24 (0, 0)) (by (with_reducible repeat (first | refine blk_drewN ?_ _ | refine blk_drew ?_ | refine blk_alloc ?_ _)); exact BK24101.out) hb); have n5_ := Aside0.mk (blk_below (g := gb24120) (o := .cells #[.int .i64 t24114, .int .i64 t24115, .int .i64 t24116, .slice Ao32 t24117.length co32] 32 (0, 0)) (by (with_reducible repeat (first | refine blk_drewN ?_ _ | refine blk_drew ?_ | refine blk_alloc ?_ _)); exact BK24120.out) hb); have n6_ := Aside0.mk (below_step (by repeat (first | (with_reducible first | exact HB.out | apply below_alloc | apply pw_below_drewN | apply below_drew1 | refine below_set ?_ GE24101.out | refine below_set ?_ GE24120.out) | exact HB.out)) hb); clear HO_11; clear HO_24121003; clear HO24131; clear BK24101; clear BK24120; clear HB; have HO_11 := n0_; have HO_24121003 := n1_; have HO24131 := n2_; have HO24135 := n3_; have BK24101 := n4_; have BK24120 := n5_; have HB := n6_; clear n0_ n1_ n2_ n3_ n4_ n5_ n6_; (try clear hb); (try clear hb2); (try clear hk); (try clear hi); (try clear ho0); obtain ⟨Ao56, co56, eo56⟩ := Kd.R_slice HO24135.out; subst eo56) | ((with_reducible refine gate_callee (f := 67) rfl ?_); refine goesL_ (some 58) rfl rfl Try.func67 (by kernel_rfl) rfl #[.slice Ao35 t24121.length co35, .slice Ao56 t24133.length co56] rfl (by (try simp only [List.map_toArray, List.map_cons, List.map_nil]); first | done | rfl | (simp only [List.length_drop, List.length_take]; rfl)) ?_; (with_reducible refine (laws_eqIntS.calls kj16 _ _ t24121 _ _ t24133 false _ ?side1 ?side2 ?side3 ?side4 A43.out).mono ?_); (case side1 => repeat (first | exact (Kd.R_reads' HO_11.out).2.2 | (with_reducible refine Kd.C_alloc ?_ _) | (with_reducible refine Kd.C_drewN ?_ _) | (with_reducible refine Kd.C_drew ?_))); (case side2 => exact (Kd.R_reads' HO_11.out).2.1); (case side3 => repeat (first | exact (Kd.R_reads' HO24135.out).2.2 | (with_reducible refine Kd.C_alloc ?_ _) | (with_reducible refine Kd.C_drewN ?_ _) | (with_reducible refine Kd.C_drew ?_))); (case side4 => exact (Kd.R_reads' HO24135.out).2.1); rintro e w' ⟨rfl, ⟨nd, rfl⟩⟩; refine ⟨_, rfl, ?_⟩))
                go_ret
                exact ⟨by first | rfl | (simp [errW_none, errW_some] <;> rfl) | (simp [*, errW_none, errW_some] <;> rfl), by repeat (first | (with_reducible first | exact HB.out | apply below_alloc | apply pw_below_drewN | apply below_drew1 | refine below_set ?_ GE24101.out | refine below_set ?_ GE24120.out) | exact HB.out)⟩
            · replace c41 := Bool.eq_false_iff.mpr c41
              subst c41
              have H1 : (some false) = some r := by rw [if_neg (show ¬ (false = true) by decide)] at H; exact H
              clear H
              have H := H1
              clear H1
              obtain rfl := Option.some.inj H
              try go_wp2
              have n0_ := Aside0.mk (Kd.R_drew HO_11.out)
              have n1_ := Aside0.mk (Kd.R_drew HO_24121003.out)
              have n2_ := Aside0.mk (blk_drew BK24101.out)
              have n3_ := Aside0.mk (blk_drew BK24120.out)
              have n4_ := Aside0.mk (below_drew1 HB.out)
              clear HO_11
              clear HO_24121003
              clear BK24101
              clear BK24120
              clear HB
              have HO_11 := n0_
              have HO_24121003 := n1_
              have BK24101 := n2_
              have BK24120 := n3_
              have HB := n4_
              clear n0_ n1_ n2_ n3_ n4_
              refine start_ (n := 5) (S := fun w' => w'.cell? ⟨gb24120, 0, none⟩ = some (.int .i64 t24114) ∧ w'.cell? ⟨gb24120, 1, none⟩ = some (.int .i64 t24115) ∧ w'.cell? ⟨gb24120, 2, none⟩ = some (.int .i64 t24116) ∧ w'.cell? ⟨gb24120, 3, none⟩ = some (.slice Ao32 t24117.length co32) ∧ w'.cell? ⟨gb24101, 0, none⟩ = some (.int .i64 a0_0) ∧ w'.cell? ⟨gb24101, 1, none⟩ = some (.int .i64 a0_1) ∧ w'.cell? ⟨gb24101, 2, none⟩ = some (.int .i64 a0_2) ∧ w'.cell? ⟨gb24101, 3, none⟩ = some (.slice A0_3 l0_3.length c0_3)) (ds := []) #[false, false, false, false, false] (by kernel_rfl) rfl rfl ⟨(blk_cell BK24120.out 0).trans rfl, (blk_cell BK24120.out 1).trans rfl, (blk_cell BK24120.out 2).trans rfl, (blk_cell BK24120.out 3).trans rfl, (blk_cell BK24101.out 0).trans rfl, (blk_cell BK24101.out 1).trans rfl, (blk_cell BK24101.out 2).trans rfl, (blk_cell BK24101.out 3).trans rfl⟩ (fun hHeld => ?_)
              generalize wc.drew = w57 at HO_11 HO_24121003 BK24101 BK24120 HB hHeld ⊢
              refine take_ (i := 0) (N := some 50) (v := ?_) (a' := ?_) #[true, false, false, false, false] rfl rfl (by kernel_rfl) (fun _ _ _ h => h) (Or.inl ⟨by rfl, ?_⟩) hHeld ?_ ?_
              rotate_left
              · rintro w' ⟨s0, s1, s2, s3, s4, s5, s6, s7⟩
                go_simp
                with_reducible rfl
              rotate_left
              · simp only [Act.put, List.setIfInBounds_toArray, List.set_cons_zero, List.set_cons_succ, i64_w, i32_w]
                rfl
              refine take_ (i := 1) (N := some 51) (v := ?_) (a' := ?_) #[true, true, false, false, false] rfl rfl (by kernel_rfl) (fun _ _ _ h => h) (Or.inl ⟨by rfl, ?_⟩) hHeld ?_ ?_
              rotate_left
              · rintro w' ⟨s0, s1, s2, s3, s4, s5, s6, s7⟩
                go_simp
                with_reducible rfl
              rotate_left
              · simp only [Act.put, List.setIfInBounds_toArray, List.set_cons_zero, List.set_cons_succ, i64_w, i32_w]
                rfl
              refine one_ (i := 2) (N := some 52) #[true, true, true, false, false] rfl rfl (by kernel_rfl) (by decide) (fun K hK => ?_)
              refine goes_ Try.func39 (by kernel_rfl) rfl #[.agg #[.int .i64 a0_0, .int .i64 a0_1, .int .i64 a0_2, .slice A0_3 l0_3.length c0_3]] (by rfl) rfl rfl (by (try simp only [List.map_toArray, List.map_cons, List.map_nil]); first | done | rfl | (simp only [List.length_drop, List.length_take]; rfl)) ?_
              with_reducible refine (laws_toBoard.calls kj16 a0_0 a0_1 a0_2 _ _ l0_3 t24126 t24127 t24128 t24129 _ ?side1 ?side2 A39.out).mono ?_
              (case side1 => repeat (first | exact (Kd.C_below HR0_3.out HB.out) | (with_reducible refine Kd.C_alloc ?_ _) | (with_reducible refine Kd.C_drewN ?_ _) | (with_reducible refine Kd.C_drew ?_)))
              (case side2 => exact HC0_3.out)
              rintro e w58 ⟨v24130, rfl, ho0, hb⟩
              refine ⟨_, rfl, ?_⟩
              have n0_ := Aside0.mk (Kd.R_below (by (with_reducible repeat (first | apply Kd.R_alloc | apply Kd.R_drewN | apply Kd.R_drew)); exact HO_11.out) hb)
              have n1_ := Aside0.mk (Kd.R_elder' (by (with_reducible repeat (first | apply Kd.R_alloc | apply Kd.R_drewN | apply Kd.R_drew)); exact HO_24121003.out) (Kd.R_base ho0) hb)
              have n2_ := Aside0.mk (Kd.R_lower (Kd.R_new' ho0 (Kd.R_lt (by (with_reducible repeat (first | apply Kd.R_alloc | apply Kd.R_drewN | apply Kd.R_drew)); exact HO_24121003.out))) (below_size (by repeat (first | (with_reducible first | exact HB.out | apply below_alloc | apply pw_below_drewN | apply below_drew1 | refine below_set ?_ GE24101.out | refine below_set ?_ GE24120.out) | exact HB.out))))
              have n3_ := Aside0.mk (blk_below (g := gb24101) (o := .cells #[.int .i64 a0_0, .int .i64 a0_1, .int .i64 a0_2, .slice A0_3 l0_3.length c0_3] 24 (0, 0)) (by (with_reducible repeat (first | refine blk_drewN ?_ _ | refine blk_drew ?_ | refine blk_alloc ?_ _)); exact BK24101.out) hb)
              have n4_ := Aside0.mk (blk_below (g := gb24120) (o := .cells #[.int .i64 t24114, .int .i64 t24115, .int .i64 t24116, .slice Ao32 t24117.length co32] 32 (0, 0)) (by (with_reducible repeat (first | refine blk_drewN ?_ _ | refine blk_drew ?_ | refine blk_alloc ?_ _)); exact BK24120.out) hb)
              have n5_ := Aside0.mk (below_step (by repeat (first | (with_reducible first | exact HB.out | apply below_alloc | apply pw_below_drewN | apply below_drew1 | refine below_set ?_ GE24101.out | refine below_set ?_ GE24120.out) | exact HB.out)) hb)
              clear HO_11
              clear HO_24121003
              clear BK24101
              clear BK24120
              clear HB
              have HO_11 := n0_
              have HO_24121003 := n1_
              have HO24131 := n2_
              have BK24101 := n3_
              have BK24120 := n4_
              have HB := n5_
              clear n0_ n1_ n2_ n3_ n4_ n5_
              (try clear hb)
              (try clear hb2)
              (try clear hk)
              (try clear hi)
              (try clear ho0)
              obtain ⟨Ao59, co59, eo59⟩ := Kd.R_slice HO24131.out
              (first | subst eo59 | (injection eo59 with f1_ f2_ f3_; have f4_ := f1_.symm; have f5_ := f3_.symm; clear f1_ f2_ f3_; subst f4_; subst f5_))
              refine hK.out _ _ ⟨(blk_cell BK24120.out 0).trans rfl, (blk_cell BK24120.out 1).trans rfl, (blk_cell BK24120.out 2).trans rfl, (blk_cell BK24120.out 3).trans rfl, (blk_cell BK24101.out 0).trans rfl, (blk_cell BK24101.out 1).trans rfl, (blk_cell BK24101.out 2).trans rfl, (blk_cell BK24101.out 3).trans rfl⟩ (fun hHeld => ?_)
              clear hK K
              refine norm_ (a' := ?_) ?_ ?_
              rotate_left
              · show Act.put _ (some 52) _ = _
                simp only [Act.put, List.setIfInBounds_toArray, List.set_cons_zero, List.set_cons_succ, i64_w, i32_w]
                rfl
              refine one_ (i := 3) (N := some 53) #[true, true, true, true, false] rfl rfl (by kernel_rfl) (by decide) (fun K hK => ?_)
              refine goes_ Try.func42 (by kernel_rfl) rfl #[.agg #[.int .i64 t24114, .int .i64 t24115, .int .i64 t24116, .slice Ao32 t24117.length co32], .agg #[.int .i64 t24126, .int .i64 t24127, .int .i64 t24128, .slice Ao59 t24129.length co59]] (by rfl) rfl rfl (by (try simp only [List.map_toArray, List.map_cons, List.map_nil]); first | done | rfl | (simp only [List.length_drop, List.length_take]; rfl)) ?_
              with_reducible refine (laws_eqBoard.calls kj16 t24114 t24115 t24116 _ _ t24117 t24126 t24127 t24128 _ _ t24129 false _ ?side1 ?side2 ?side3 ?side4 A40.out).mono ?_
              (case side1 => repeat (first | exact (Kd.R_reads' HO_24121003.out).2.2 | (with_reducible refine Kd.C_alloc ?_ _) | (with_reducible refine Kd.C_drewN ?_ _) | (with_reducible refine Kd.C_drew ?_)))
              (case side2 => exact (Kd.R_reads' HO_24121003.out).2.1)
              (case side3 => repeat (first | exact (Kd.R_reads' HO24131.out).2.2 | (with_reducible refine Kd.C_alloc ?_ _) | (with_reducible refine Kd.C_drewN ?_ _) | (with_reducible refine Kd.C_drew ?_)))
              (case side4 => exact (Kd.R_reads' HO24131.out).2.1)
              rintro e w60 ⟨rfl, hb⟩
              refine ⟨_, rfl, ?_⟩
              have n0_ := Aside0.mk (Kd.R_below (by (with_reducible repeat (first | apply Kd.R_alloc | apply Kd.R_drewN | apply Kd.R_drew)); exact HO_11.out) hb)
              have n1_ := Aside0.mk (Kd.R_below (by (with_reducible repeat (first | apply Kd.R_alloc | apply Kd.R_drewN | apply Kd.R_drew)); exact HO_24121003.out) hb)
              have n2_ := Aside0.mk (Kd.R_below (by (with_reducible repeat (first | apply Kd.R_alloc | apply Kd.R_drewN | apply Kd.R_drew)); exact HO24131.out) hb)
              have n3_ := Aside0.mk (blk_below (g := gb24101) (o := .cells #[.int .i64 a0_0, .int .i64 a0_1, .int .i64 a0_2, .slice A0_3 l0_3.length c0_3] 24 (0, 0)) (by (with_reducible repeat (first | refine blk_drewN ?_ _ | refine blk_drew ?_ | refine blk_alloc ?_ _)); exact BK24101.out) hb)
              have n4_ := Aside0.mk (blk_below (g := gb24120) (o := .cells #[.int .i64 t24114, .int .i64 t24115, .int .i64 t24116, .slice Ao32 t24117.length co32] 32 (0, 0)) (by (with_reducible repeat (first | refine blk_drewN ?_ _ | refine blk_drew ?_ | refine blk_alloc ?_ _)); exact BK24120.out) hb)
              have n5_ := Aside0.mk (below_step (by repeat (first | (with_reducible first | exact HB.out | apply below_alloc | apply pw_below_drewN | apply below_drew1 | refine below_set ?_ GE24101.out | refine below_set ?_ GE24120.out) | exact HB.out)) hb)
              clear HO_11
              clear HO_24121003
              clear HO24131
              clear BK24101
              clear BK24120
              clear HB
              have HO_11 := n0_
              have HO_24121003 := n1_
              have HO24131 := n2_
              have BK24101 := n3_
              have BK24120 := n4_
              have HB := n5_
              clear n0_ n1_ n2_ n3_ n4_ n5_
              (try clear hb)
              (try clear hb2)
              (try clear hk)
              (try clear hi)
              refine hK.out _ _ ⟨(blk_cell BK24120.out 0).trans rfl, (blk_cell BK24120.out 1).trans rfl, (blk_cell BK24120.out 2).trans rfl, (blk_cell BK24120.out 3).trans rfl, (blk_cell BK24101.out 0).trans rfl, (blk_cell BK24101.out 1).trans rfl, (blk_cell BK24101.out 2).trans rfl, (blk_cell BK24101.out 3).trans rfl⟩ (fun hHeld => ?_)
              clear hK K
              refine norm_ (a' := ?_) ?_ ?_
              rotate_left
              · show Act.put _ (some 53) _ = _
                simp only [Act.put, List.setIfInBounds_toArray, List.set_cons_zero, List.set_cons_succ, i64_w, i32_w]
                rfl
              refine pure_ (i := 4) (N := some 54) (v := ?_) (a' := ?_) #[true, true, true, true, true] rfl rfl (by kernel_rfl) (fun _ _ _ h => h) (Or.inl ⟨by rfl, ?_⟩) ?_ ?_
              rotate_left
              · intro w'
                go_simp
                with_reducible rfl
              rotate_left
              · simp only [Act.put, List.setIfInBounds_toArray, List.set_cons_zero, List.set_cons_succ, i64_w, i32_w]
                rfl
              refine done_ (by kernel_rfl) ?_
              try go_wp2
              go_ret
              exact ⟨by first | rfl | (simp [errW_none, errW_some] <;> rfl) | (simp [*, errW_none, errW_some] <;> rfl), by repeat (first | (with_reducible first | exact HB.out | apply below_alloc | apply pw_below_drewN | apply below_drew1 | refine below_set ?_ GE24101.out | refine below_set ?_ GE24120.out) | exact HB.out)⟩

end Go.Proofs.Ytkobjjadojpjfaa.Pr
