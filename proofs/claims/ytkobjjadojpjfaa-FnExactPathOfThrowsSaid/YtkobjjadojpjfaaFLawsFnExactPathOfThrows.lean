-- A text of the machine side, written by wip/gen.py of this repo out of the translation. Not trusted: Lean checks it.
import Derived.Test.YtkobjjadojpjfaaF0
import Derived.Test.YtkobjjadojpjfaaFGA
import Derived.Test.YtkobjjadojpjfaaFGE
namespace Go.Proofs.Ytkobjjadojpjfaa.Pr
open Go.RowKit Go.Proofs.YtkobjjadojpjfaaW.PrintWords Go.Proofs.YtkobjjadojpjfaaW.PrintLast Go.Proofs.YtkobjjadojpjfaaW.PrintMore
attribute [local go_sem] max2_int min2_int max_two min_two max_three min_three max_four min_four   -- for this text's walks alone
set_option linter.unusedVariables false
set_option linter.unusedSimpArgs false

/-! ### laws_FnExactPathOfThrows: function 16 -/
mutual
def laws_FnExactPathOfThrows.j0 : Nat → Int → List Int → List Int → Bool → List Int → List Int → Bool → Bool → Int → Int → Int → List (S82) → Int → Int → Int → List (S27) → Option (Bool)
  | 0, _, _, _, _, _, _, _, _, _, _, _, _, _, _, _, _ => none
  | k + 1, x1, x2, x8, x9, x11, x12, x13, x55, x32102000, x32102001, x32102002, x32102003, x32123000, x32123001, x32123002, x32123003 => if x55 = true then (some false) else ((laws_toBoard.f k x32102000 x32102001 x32102002 x32102003).bind fun bt32131 => ((laws_eqBoard.f k x32123000 x32123001 x32123002 x32123003 bt32131.1 bt32131.2.1 bt32131.2.2.1 bt32131.2.2.2).bind fun t32137 => (if t32137 = true then ((laws_toIntS.f k x2).bind fun t32138 => ((laws_eqIntS.f k x11 t32138).bind fun t32141 => (if t32141 = true then ((laws_markBoard.f k x32123000 x32123001 x32123002 x32123003 1).bind fun bt32142 => ((laws_markIntS.f k x11 bt32142.1).bind fun bt32144 => (if bt32144.1 < 0 then (laws_FnExactPathOfThrows.j1 k x1 x2 x8 x9 x12 true x32102000 x32102001 x32102002 x32102003) else ((laws_eqIntS.f k x12 x8).bind fun t32146 => (if t32146 = true then (laws_FnExactPathOfThrows.j1 k x1 x2 x8 x9 x12 (x13 != x9) x32102000 x32102001 x32102002 x32102003) else (laws_FnExactPathOfThrows.j1 k x1 x2 x8 x9 x12 true x32102000 x32102001 x32102002 x32102003)))))) else (some false)))) else (some false))))
def laws_FnExactPathOfThrows.j1 : Nat → Int → List Int → List Int → Bool → List Int → Bool → Int → Int → Int → List (S82) → Option (Bool)
  | 0, _, _, _, _, _, _, _, _, _, _ => none
  | k + 1, x1, x2, x8, x9, x12, x84, x32102000, x32102001, x32102002, x32102003 => if x84 = true then (some false) else ((laws_markIntS.f k x12 1).bind fun bt32147 => ((laws_heldIntS.f k bt32147.2 1).bind fun t32149 => (if t32149 < 0 then (some false) else (if t32149 = bt32147.1 then ((laws_toBoard.f k x32102000 x32102001 x32102002 x32102003).bind fun bt32150 => ((laws_toIntS.f k x2).bind fun t32156 => ((impl_PathOfThrows.f k bt32150.1 bt32150.2.1 bt32150.2.2.1 bt32150.2.2.2 x1 t32156).bind fun bt32159 => ((laws_eqIntS.f k bt32159.1 x8).bind fun t32163 => (if t32163 = true then (laws_FnExactPathOfThrows.j2 k bt32147.2 bt32147.1 (bt32159.2 != x9)) else (laws_FnExactPathOfThrows.j2 k bt32147.2 bt32147.1 true)))))) else (some false)))))
def laws_FnExactPathOfThrows.j2 : Nat → List Int → Int → Bool → Option (Bool)
  | 0, _, _, _ => none
  | k + 1, x12, x15, x113 => if x113 = true then (some false) else ((laws_heldIntS.f k x12 1).bind fun t32164 => (if t32164 < 0 then (some false) else (if t32164 = x15 then (some true) else (some false))))
end
def laws_FnExactPathOfThrows.f (k : Nat) (a0_0 : Int) (a0_1 : Int) (a0_2 : Int) (l0_3 : List (S82)) (a1 : Int) (l2 : List Int) : Option (Bool) := if (l2.length : Int) > 1048576 then (some true) else ((laws_szBoard.f a0_0 a0_1 a0_2 l0_3 1048576).bind fun t32102 => (if t32102 < 0 then (some true) else ((laws_toBoard.f k a0_0 a0_1 a0_2 l0_3).bind fun bt32103 => ((laws_toIntS.f k l2).bind fun t32109 => ((spec_PathOfThrows.f k bt32103.1 bt32103.2.1 bt32103.2.2.1 bt32103.2.2.2 a1 t32109).bind fun bt32112 => ((laws_toBoard.f k a0_0 a0_1 a0_2 l0_3).bind fun bt32116 => ((laws_toIntS.f k l2).bind fun t32123 => ((impl_PathOfThrows.f k bt32116.1 bt32116.2.1 bt32116.2.2.1 bt32116.2.2.2 a1 t32123).bind fun bt32126 => ((laws_eqIntS.f k bt32126.1 bt32112.1).bind fun t32130 => (if t32130 = true then (laws_FnExactPathOfThrows.j0 k a1 l2 bt32112.1 bt32112.2 t32123 bt32126.1 bt32126.2 (bt32126.2 != bt32112.2) a0_0 a0_1 a0_2 l0_3 bt32116.1 bt32116.2.1 bt32116.2.2.1 bt32116.2.2.2) else (laws_FnExactPathOfThrows.j0 k a1 l2 bt32112.1 bt32112.2 t32123 bt32126.1 bt32126.2 true a0_0 a0_1 a0_2 l0_3 bt32116.1 bt32116.2.1 bt32116.2.2.1 bt32116.2.2.2)))))))))))
theorem laws_FnExactPathOfThrows.mono_l : ∀ k, (∀ y0 y1 y2 y3 y4 y5 y6 y7 y8 y9 y10 y11 y12 y13 y14 y15, LeO (laws_FnExactPathOfThrows.j0 k y0 y1 y2 y3 y4 y5 y6 y7 y8 y9 y10 y11 y12 y13 y14 y15) (laws_FnExactPathOfThrows.j0 (k + 1) y0 y1 y2 y3 y4 y5 y6 y7 y8 y9 y10 y11 y12 y13 y14 y15)) ∧ (∀ y0 y1 y2 y3 y4 y5 y6 y7 y8 y9, LeO (laws_FnExactPathOfThrows.j1 k y0 y1 y2 y3 y4 y5 y6 y7 y8 y9) (laws_FnExactPathOfThrows.j1 (k + 1) y0 y1 y2 y3 y4 y5 y6 y7 y8 y9)) ∧ (∀ y0 y1 y2, LeO (laws_FnExactPathOfThrows.j2 k y0 y1 y2) (laws_FnExactPathOfThrows.j2 (k + 1) y0 y1 y2))
  | 0 => ⟨fun _ _ _ _ _ _ _ _ _ _ _ _ _ _ _ _ r h => by simp [laws_FnExactPathOfThrows.j0] at h, fun _ _ _ _ _ _ _ _ _ _ r h => by simp [laws_FnExactPathOfThrows.j1] at h, fun _ _ _ r h => by simp [laws_FnExactPathOfThrows.j2] at h⟩
  | k + 1 => by
    obtain ⟨ih0, ih1, ih2⟩ := laws_FnExactPathOfThrows.mono_l k
    refine ⟨?_, ?_, ?_⟩
    · intro y0 y1 y2 y3 y4 y5 y6 y7 y8 y9 y10 y11 y12 y13 y14 y15
      unfold laws_FnExactPathOfThrows.j0
      repeat' first
      | (with_reducible exact ih0 _ _ _ _ _ _ _ _ _ _ _ _ _ _ _ _)
      | (with_reducible exact ih1 _ _ _ _ _ _ _ _ _ _)
      | (with_reducible exact ih2 _ _ _)
      | (with_reducible exact impl_PathOfThrows.mono _ _ _ _ _ _ _)
      | (with_reducible exact laws_eqBoard.mono _ _ _ _ _ _ _ _ _)
      | (with_reducible exact laws_eqIntS.mono _ _ _)
      | (with_reducible exact laws_heldIntS.mono _ _ _)
      | (with_reducible exact laws_markBoard.mono _ _ _ _ _ _)
      | (with_reducible exact laws_markIntS.mono _ _ _)
      | (with_reducible exact laws_toBoard.mono _ _ _ _ _)
      | (with_reducible exact laws_toIntS.mono _ _)
      | (with_reducible exact spec_PathOfThrows.mono _ _ _ _ _ _ _)
      | (with_reducible exact LeO.refl _)
      | (with_reducible exact LeO.none _)
      | (with_reducible refine LeO.ite ?_ ?_)
      | (with_reducible refine LeO.bind ?_ (fun _ => ?_))
      | exact ih0 _ _ _ _ _ _ _ _ _ _ _ _ _ _ _ _
      | exact ih1 _ _ _ _ _ _ _ _ _ _
      | exact ih2 _ _ _
      | exact impl_PathOfThrows.mono _ _ _ _ _ _ _
      | exact laws_eqBoard.mono _ _ _ _ _ _ _ _ _
      | exact laws_eqIntS.mono _ _ _
      | exact laws_heldIntS.mono _ _ _
      | exact laws_markBoard.mono _ _ _ _ _ _
      | exact laws_markIntS.mono _ _ _
      | exact laws_toBoard.mono _ _ _ _ _
      | exact laws_toIntS.mono _ _
      | exact spec_PathOfThrows.mono _ _ _ _ _ _ _
      | exact LeO.none _
      | refine LeO.ite ?_ ?_
      | refine LeO.bind ?_ (fun _ => ?_)
    · intro y0 y1 y2 y3 y4 y5 y6 y7 y8 y9
      unfold laws_FnExactPathOfThrows.j1
      repeat' first
      | (with_reducible exact ih0 _ _ _ _ _ _ _ _ _ _ _ _ _ _ _ _)
      | (with_reducible exact ih1 _ _ _ _ _ _ _ _ _ _)
      | (with_reducible exact ih2 _ _ _)
      | (with_reducible exact impl_PathOfThrows.mono _ _ _ _ _ _ _)
      | (with_reducible exact laws_eqBoard.mono _ _ _ _ _ _ _ _ _)
      | (with_reducible exact laws_eqIntS.mono _ _ _)
      | (with_reducible exact laws_heldIntS.mono _ _ _)
      | (with_reducible exact laws_markBoard.mono _ _ _ _ _ _)
      | (with_reducible exact laws_markIntS.mono _ _ _)
      | (with_reducible exact laws_toBoard.mono _ _ _ _ _)
      | (with_reducible exact laws_toIntS.mono _ _)
      | (with_reducible exact spec_PathOfThrows.mono _ _ _ _ _ _ _)
      | (with_reducible exact LeO.refl _)
      | (with_reducible exact LeO.none _)
      | (with_reducible refine LeO.ite ?_ ?_)
      | (with_reducible refine LeO.bind ?_ (fun _ => ?_))
      | exact ih0 _ _ _ _ _ _ _ _ _ _ _ _ _ _ _ _
      | exact ih1 _ _ _ _ _ _ _ _ _ _
      | exact ih2 _ _ _
      | exact impl_PathOfThrows.mono _ _ _ _ _ _ _
      | exact laws_eqBoard.mono _ _ _ _ _ _ _ _ _
      | exact laws_eqIntS.mono _ _ _
      | exact laws_heldIntS.mono _ _ _
      | exact laws_markBoard.mono _ _ _ _ _ _
      | exact laws_markIntS.mono _ _ _
      | exact laws_toBoard.mono _ _ _ _ _
      | exact laws_toIntS.mono _ _
      | exact spec_PathOfThrows.mono _ _ _ _ _ _ _
      | exact LeO.none _
      | refine LeO.ite ?_ ?_
      | refine LeO.bind ?_ (fun _ => ?_)
    · intro y0 y1 y2
      unfold laws_FnExactPathOfThrows.j2
      repeat' first
      | (with_reducible exact ih0 _ _ _ _ _ _ _ _ _ _ _ _ _ _ _ _)
      | (with_reducible exact ih1 _ _ _ _ _ _ _ _ _ _)
      | (with_reducible exact ih2 _ _ _)
      | (with_reducible exact impl_PathOfThrows.mono _ _ _ _ _ _ _)
      | (with_reducible exact laws_eqBoard.mono _ _ _ _ _ _ _ _ _)
      | (with_reducible exact laws_eqIntS.mono _ _ _)
      | (with_reducible exact laws_heldIntS.mono _ _ _)
      | (with_reducible exact laws_markBoard.mono _ _ _ _ _ _)
      | (with_reducible exact laws_markIntS.mono _ _ _)
      | (with_reducible exact laws_toBoard.mono _ _ _ _ _)
      | (with_reducible exact laws_toIntS.mono _ _)
      | (with_reducible exact spec_PathOfThrows.mono _ _ _ _ _ _ _)
      | (with_reducible exact LeO.refl _)
      | (with_reducible exact LeO.none _)
      | (with_reducible refine LeO.ite ?_ ?_)
      | (with_reducible refine LeO.bind ?_ (fun _ => ?_))
      | exact ih0 _ _ _ _ _ _ _ _ _ _ _ _ _ _ _ _
      | exact ih1 _ _ _ _ _ _ _ _ _ _
      | exact ih2 _ _ _
      | exact impl_PathOfThrows.mono _ _ _ _ _ _ _
      | exact laws_eqBoard.mono _ _ _ _ _ _ _ _ _
      | exact laws_eqIntS.mono _ _ _
      | exact laws_heldIntS.mono _ _ _
      | exact laws_markBoard.mono _ _ _ _ _ _
      | exact laws_markIntS.mono _ _ _
      | exact laws_toBoard.mono _ _ _ _ _
      | exact laws_toIntS.mono _ _
      | exact spec_PathOfThrows.mono _ _ _ _ _ _ _
      | exact LeO.none _
      | refine LeO.ite ?_ ?_
      | refine LeO.bind ?_ (fun _ => ?_)
theorem laws_FnExactPathOfThrows.mono : ∀ a0 a1 a2 a3 a4 a5 k, LeO (laws_FnExactPathOfThrows.f k a0 a1 a2 a3 a4 a5) (laws_FnExactPathOfThrows.f (k + 1) a0 a1 a2 a3 a4 a5) := by
  intro a0 a1 a2 a3 a4 a5 k
  obtain ⟨ih0, ih1, ih2⟩ := laws_FnExactPathOfThrows.mono_l k
  unfold laws_FnExactPathOfThrows.f
  repeat' first
      | (with_reducible exact ih0 _ _ _ _ _ _ _ _ _ _ _ _ _ _ _ _)
      | (with_reducible exact ih1 _ _ _ _ _ _ _ _ _ _)
      | (with_reducible exact ih2 _ _ _)
      | (with_reducible exact impl_PathOfThrows.mono _ _ _ _ _ _ _)
      | (with_reducible exact laws_eqBoard.mono _ _ _ _ _ _ _ _ _)
      | (with_reducible exact laws_eqIntS.mono _ _ _)
      | (with_reducible exact laws_heldIntS.mono _ _ _)
      | (with_reducible exact laws_markBoard.mono _ _ _ _ _ _)
      | (with_reducible exact laws_markIntS.mono _ _ _)
      | (with_reducible exact laws_toBoard.mono _ _ _ _ _)
      | (with_reducible exact laws_toIntS.mono _ _)
      | (with_reducible exact spec_PathOfThrows.mono _ _ _ _ _ _ _)
      | (with_reducible exact LeO.refl _)
      | (with_reducible exact LeO.none _)
      | (with_reducible refine LeO.ite ?_ ?_)
      | (with_reducible refine LeO.bind ?_ (fun _ => ?_))
      | exact ih0 _ _ _ _ _ _ _ _ _ _ _ _ _ _ _ _
      | exact ih1 _ _ _ _ _ _ _ _ _ _
      | exact ih2 _ _ _
      | exact impl_PathOfThrows.mono _ _ _ _ _ _ _
      | exact laws_eqBoard.mono _ _ _ _ _ _ _ _ _
      | exact laws_eqIntS.mono _ _ _
      | exact laws_heldIntS.mono _ _ _
      | exact laws_markBoard.mono _ _ _ _ _ _
      | exact laws_markIntS.mono _ _ _
      | exact laws_toBoard.mono _ _ _ _ _
      | exact laws_toIntS.mono _ _
      | exact spec_PathOfThrows.mono _ _ _ _ _ _ _
      | exact LeO.none _
      | refine LeO.ite ?_ ?_
      | refine LeO.bind ?_ (fun _ => ?_)
set_option maxHeartbeats 8000000 in
set_option maxRecDepth 100000 in
theorem laws_FnExactPathOfThrows.calls (k : Nat) (a0_0 : Int) (a0_1 : Int) (a0_2 : Int) (A0_3 : Option Addr) (c0_3 : Nat) (l0_3 : List (S82)) (a1 : Int) (A2 : Option Addr) (c2 : Nat) (l2 : List Int) (r : Bool) (w : World) (hr0_3 : Kd.C k82 w A0_3 l0_3.length l0_3) (hc0_3 : l0_3.length ≤ c0_3) (hr2 : Kd.C (Kd.int .i64) w A2 l2.length l2) (hc2 : l2.length ≤ c2) (h : laws_FnExactPathOfThrows.f k a0_0 a0_1 a0_2 l0_3 a1 l2 = some r) :
    Calls Try.prog 16 #[.agg #[.int .i64 a0_0, .int .i64 a0_1, .int .i64 a0_2, .slice A0_3 l0_3.length c0_3], .int .i64 a1, .slice A2 l2.length c2] w fun e w' => e = .returned (.bool r) ∧ Below w.heap.size w w' := by
  have hu24 := Try.underlying24
  have hu32 := Try.underlying32
  have HR0_3 := Aside0.mk hr0_3
  have HC0_3 := Aside0.mk hc0_3
  clear hr0_3 hc0_3
  have HR2 := Aside0.mk hr2
  have HC2 := Aside0.mk hc2
  clear hr2 hc2
  have HB := Aside0.mk (Below.refl w.heap.size w)
  have H : (if (l2.length : Int) > 1048576 then (some true) else ((laws_szBoard.f a0_0 a0_1 a0_2 l0_3 1048576).bind fun t32102 => (if t32102 < 0 then (some true) else ((laws_toBoard.f k a0_0 a0_1 a0_2 l0_3).bind fun bt32103 => ((laws_toIntS.f k l2).bind fun t32109 => ((spec_PathOfThrows.f k bt32103.1 bt32103.2.1 bt32103.2.2.1 bt32103.2.2.2 a1 t32109).bind fun bt32112 => ((laws_toBoard.f k a0_0 a0_1 a0_2 l0_3).bind fun bt32116 => ((laws_toIntS.f k l2).bind fun t32123 => ((impl_PathOfThrows.f k bt32116.1 bt32116.2.1 bt32116.2.2.1 bt32116.2.2.2 a1 t32123).bind fun bt32126 => ((laws_eqIntS.f k bt32126.1 bt32112.1).bind fun t32130 => (if t32130 = true then (laws_FnExactPathOfThrows.j0 k a1 l2 bt32112.1 bt32112.2 t32123 bt32126.1 bt32126.2 (bt32126.2 != bt32112.2) a0_0 a0_1 a0_2 l0_3 bt32116.1 bt32116.2.1 bt32116.2.2.1 bt32116.2.2.2) else (laws_FnExactPathOfThrows.j0 k a1 l2 bt32112.1 bt32112.2 t32123 bt32126.1 bt32126.2 true a0_0 a0_1 a0_2 l0_3 bt32116.1 bt32116.2.1 bt32116.2.2.1 bt32116.2.2.2)))))))))))) = some r := h
  clear h
  by_cases c4 : (l2.length : Int) > 1048576
  · rw [if_pos c4] at H
    have c4b0 : decide (1048576 < (l2.length : Int)) = true := decide_eq_true c4
    have c4b1 : decide (1048576 < l2.length) = true := decide_eq_true (by omega)
    clear c4
    obtain rfl := Option.some.inj H
    go_enter Try.func16, Try.ntmps16
    go_wp2_with (first | ((with_reducible refine gate_dst (N := 3) rfl ?_); refine box_event ?hg (N := 3) ?hd (cs := #[.int .i64 a0_0, .int .i64 a0_1, .int .i64 a0_2, .slice A0_3 l0_3.length c0_3]) (t := 24) ?hr ?_; (case hd => rfl); (case hg => rfl); (case hr => first | (go_simp; done) | (go_simp; rfl)); intro gb32101 hg w5 hbox hb; have n0_ := Aside0.mk (below_step (by repeat (first | (with_reducible first | exact HB.out | apply below_alloc | apply pw_below_drewN | apply below_drew1) | exact HB.out)) hb); have n1_ := Aside0.mk (hbox); have n2_ := Aside0.mk ((by rw [hg]; exact (below_size (by repeat (first | (with_reducible first | exact HB.out | apply below_alloc | apply pw_below_drewN | apply below_drew1) | exact HB.out))) : w.heap.size ≤ gb32101)); have n3_ := Aside0.mk ((by rw [hg]; exact (below_size (by repeat (first | (with_reducible first | exact HB.out | apply below_alloc | apply pw_below_drewN | apply below_drew1) | exact HB.out))) : w.heap.size ≤ gb32101)); clear HB; have HB := n0_; have BK32101 := n1_; have GW32101 := n2_; have GE32101 := n3_; clear n0_ n1_ n2_ n3_; clear hb hbox hg))
    go_ret
    exact ⟨by first | rfl | (simp [errW_none, errW_some] <;> rfl) | (simp [*, errW_none, errW_some] <;> rfl), by repeat (first | (with_reducible first | exact HB.out | apply below_alloc | apply pw_below_drewN | apply below_drew1 | refine below_set ?_ GE32101.out) | exact HB.out)⟩
  · rw [if_neg c4] at H
    have c4b0 : decide (1048576 < (l2.length : Int)) = false := decide_eq_false c4
    have c4b1 : decide (1048576 < l2.length) = false := decide_eq_false (by omega)
    clear c4
    replace H := Option.bind_eq_some_iff.mp H
    obtain ⟨t32102, A60, H⟩ := H
    replace H : (if t32102 < 0 then (some true) else ((laws_toBoard.f k a0_0 a0_1 a0_2 l0_3).bind fun bt32103 => ((laws_toIntS.f k l2).bind fun t32109 => ((spec_PathOfThrows.f k bt32103.1 bt32103.2.1 bt32103.2.2.1 bt32103.2.2.2 a1 t32109).bind fun bt32112 => ((laws_toBoard.f k a0_0 a0_1 a0_2 l0_3).bind fun bt32116 => ((laws_toIntS.f k l2).bind fun t32123 => ((impl_PathOfThrows.f k bt32116.1 bt32116.2.1 bt32116.2.2.1 bt32116.2.2.2 a1 t32123).bind fun bt32126 => ((laws_eqIntS.f k bt32126.1 bt32112.1).bind fun t32130 => (if t32130 = true then (laws_FnExactPathOfThrows.j0 k a1 l2 bt32112.1 bt32112.2 t32123 bt32126.1 bt32126.2 (bt32126.2 != bt32112.2) a0_0 a0_1 a0_2 l0_3 bt32116.1 bt32116.2.1 bt32116.2.2.1 bt32116.2.2.2) else (laws_FnExactPathOfThrows.j0 k a1 l2 bt32112.1 bt32112.2 t32123 bt32126.1 bt32126.2 true a0_0 a0_1 a0_2 l0_3 bt32116.1 bt32116.2.1 bt32116.2.2.1 bt32116.2.2.2)))))))))) = some r := H
    have A6 := Aside0.mk A60
    clear A60
    by_cases c7 : t32102 < 0
    · rw [if_pos c7] at H
      have c7b0 : decide (t32102 < 0) = true := decide_eq_true c7
      clear c7
      obtain rfl := Option.some.inj H
      go_enter Try.func16, Try.ntmps16
      go_wp2_with (first | ((with_reducible refine gate_dst (N := 3) rfl ?_); refine box_event ?hg (N := 3) ?hd (cs := #[.int .i64 a0_0, .int .i64 a0_1, .int .i64 a0_2, .slice A0_3 l0_3.length c0_3]) (t := 24) ?hr ?_; (case hd => rfl); (case hg => rfl); (case hr => first | (go_simp; done) | (go_simp; rfl)); intro gb32101 hg w8 hbox hb; have n0_ := Aside0.mk (below_step (by repeat (first | (with_reducible first | exact HB.out | apply below_alloc | apply pw_below_drewN | apply below_drew1) | exact HB.out)) hb); have n1_ := Aside0.mk (hbox); have n2_ := Aside0.mk ((by rw [hg]; exact (below_size (by repeat (first | (with_reducible first | exact HB.out | apply below_alloc | apply pw_below_drewN | apply below_drew1) | exact HB.out))) : w.heap.size ≤ gb32101)); have n3_ := Aside0.mk ((by rw [hg]; exact (below_size (by repeat (first | (with_reducible first | exact HB.out | apply below_alloc | apply pw_below_drewN | apply below_drew1) | exact HB.out))) : w.heap.size ≤ gb32101)); clear HB; have HB := n0_; have BK32101 := n1_; have GW32101 := n2_; have GE32101 := n3_; clear n0_ n1_ n2_ n3_; clear hb hbox hg; have hcz9_0 : w8.cell? ⟨gb32101, 0, none⟩ = some (.int .i64 a0_0) := (blk_cell BK32101.out 0).trans rfl; have hcz9_1 : w8.cell? ⟨gb32101, 1, none⟩ = some (.int .i64 a0_1) := (blk_cell BK32101.out 1).trans rfl; have hcz9_2 : w8.cell? ⟨gb32101, 2, none⟩ = some (.int .i64 a0_2) := (blk_cell BK32101.out 2).trans rfl; have hcz9_3 : w8.cell? ⟨gb32101, 3, none⟩ = some (.slice A0_3 l0_3.length c0_3) := (blk_cell BK32101.out 3).trans rfl; have hfz9_0 := blk_frozen BK32101.out 0; have hfz9_1 := blk_frozen BK32101.out 1; have hfz9_2 := blk_frozen BK32101.out 2; have hfz9_3 := blk_frozen BK32101.out 3) | ((with_reducible refine gate_callee (f := 37) rfl ?_); refine goesL_ (some 24) rfl rfl Try.func37 (by kernel_rfl) rfl #[.agg #[.int .i64 a0_0, .int .i64 a0_1, .int .i64 a0_2, .slice A0_3 l0_3.length c0_3], .int .i64 1048576] rfl (by (try simp only [List.map_toArray, List.map_cons, List.map_nil]); first | done | rfl | (simp only [List.length_drop, List.length_take]; rfl)) ?_; (with_reducible refine (laws_szBoard.calls a0_0 a0_1 a0_2 _ _ l0_3 1048576 t32102 _ ?side1 ?side2 A6.out).mono ?_); (case side1 => repeat (first | exact (Kd.C_below HR0_3.out HB.out) | (with_reducible refine Kd.C_alloc ?_ _) | (with_reducible refine Kd.C_drewN ?_ _) | (with_reducible refine Kd.C_drew ?_))); (case side2 => exact HC0_3.out); rintro e w10 ⟨rfl, hb⟩; refine ⟨_, rfl, ?_⟩; have n0_ := Aside0.mk (blk_below (g := gb32101) (o := .cells #[.int .i64 a0_0, .int .i64 a0_1, .int .i64 a0_2, .slice A0_3 l0_3.length c0_3] 24 (0, 0)) (by (with_reducible repeat (first | refine blk_drewN ?_ _ | refine blk_drew ?_ | refine blk_alloc ?_ _)); exact BK32101.out) hb); have n1_ := Aside0.mk (below_step (by repeat (first | (with_reducible first | exact HB.out | apply below_alloc | apply pw_below_drewN | apply below_drew1 | refine below_set ?_ GE32101.out) | exact HB.out)) hb); clear BK32101; clear HB; have BK32101 := n0_; have HB := n1_; clear n0_ n1_; (try clear hb); (try clear hb2); (try clear hk); (try clear hi)))
      go_ret
      exact ⟨by first | rfl | (simp [errW_none, errW_some] <;> rfl) | (simp [*, errW_none, errW_some] <;> rfl), by repeat (first | (with_reducible first | exact HB.out | apply below_alloc | apply pw_below_drewN | apply below_drew1 | refine below_set ?_ GE32101.out) | exact HB.out)⟩
    · rw [if_neg c7] at H
      have c7b0 : decide (t32102 < 0) = false := decide_eq_false c7
      clear c7
      replace H := Option.bind_eq_some_iff.mp H
      obtain ⟨⟨t32103, t32104, t32105, t32106⟩, A110, H⟩ := H
      replace H : ((laws_toIntS.f k l2).bind fun t32109 => ((spec_PathOfThrows.f k t32103 t32104 t32105 t32106 a1 t32109).bind fun bt32112 => ((laws_toBoard.f k a0_0 a0_1 a0_2 l0_3).bind fun bt32116 => ((laws_toIntS.f k l2).bind fun t32123 => ((impl_PathOfThrows.f k bt32116.1 bt32116.2.1 bt32116.2.2.1 bt32116.2.2.2 a1 t32123).bind fun bt32126 => ((laws_eqIntS.f k bt32126.1 bt32112.1).bind fun t32130 => (if t32130 = true then (laws_FnExactPathOfThrows.j0 k a1 l2 bt32112.1 bt32112.2 t32123 bt32126.1 bt32126.2 (bt32126.2 != bt32112.2) a0_0 a0_1 a0_2 l0_3 bt32116.1 bt32116.2.1 bt32116.2.2.1 bt32116.2.2.2) else (laws_FnExactPathOfThrows.j0 k a1 l2 bt32112.1 bt32112.2 t32123 bt32126.1 bt32126.2 true a0_0 a0_1 a0_2 l0_3 bt32116.1 bt32116.2.1 bt32116.2.2.1 bt32116.2.2.2)))))))) = some r := H
      have A11 := Aside0.mk A110
      clear A110
      replace H := Option.bind_eq_some_iff.mp H
      obtain ⟨t32109, A120, H⟩ := H
      replace H : ((spec_PathOfThrows.f k t32103 t32104 t32105 t32106 a1 t32109).bind fun bt32112 => ((laws_toBoard.f k a0_0 a0_1 a0_2 l0_3).bind fun bt32116 => ((laws_toIntS.f k l2).bind fun t32123 => ((impl_PathOfThrows.f k bt32116.1 bt32116.2.1 bt32116.2.2.1 bt32116.2.2.2 a1 t32123).bind fun bt32126 => ((laws_eqIntS.f k bt32126.1 bt32112.1).bind fun t32130 => (if t32130 = true then (laws_FnExactPathOfThrows.j0 k a1 l2 bt32112.1 bt32112.2 t32123 bt32126.1 bt32126.2 (bt32126.2 != bt32112.2) a0_0 a0_1 a0_2 l0_3 bt32116.1 bt32116.2.1 bt32116.2.2.1 bt32116.2.2.2) else (laws_FnExactPathOfThrows.j0 k a1 l2 bt32112.1 bt32112.2 t32123 bt32126.1 bt32126.2 true a0_0 a0_1 a0_2 l0_3 bt32116.1 bt32116.2.1 bt32116.2.2.1 bt32116.2.2.2))))))) = some r := H
      have A12 := Aside0.mk A120
      clear A120
      replace H := Option.bind_eq_some_iff.mp H
      obtain ⟨⟨t32112, t32115⟩, A130, H⟩ := H
      replace H : ((laws_toBoard.f k a0_0 a0_1 a0_2 l0_3).bind fun bt32116 => ((laws_toIntS.f k l2).bind fun t32123 => ((impl_PathOfThrows.f k bt32116.1 bt32116.2.1 bt32116.2.2.1 bt32116.2.2.2 a1 t32123).bind fun bt32126 => ((laws_eqIntS.f k bt32126.1 t32112).bind fun t32130 => (if t32130 = true then (laws_FnExactPathOfThrows.j0 k a1 l2 t32112 t32115 t32123 bt32126.1 bt32126.2 (bt32126.2 != t32115) a0_0 a0_1 a0_2 l0_3 bt32116.1 bt32116.2.1 bt32116.2.2.1 bt32116.2.2.2) else (laws_FnExactPathOfThrows.j0 k a1 l2 t32112 t32115 t32123 bt32126.1 bt32126.2 true a0_0 a0_1 a0_2 l0_3 bt32116.1 bt32116.2.1 bt32116.2.2.1 bt32116.2.2.2)))))) = some r := H
      have A13 := Aside0.mk A130
      clear A130
      replace H := Option.bind_eq_some_iff.mp H
      obtain ⟨⟨t32116, t32117, t32118, t32119⟩, A140, H⟩ := H
      replace H : ((laws_toIntS.f k l2).bind fun t32123 => ((impl_PathOfThrows.f k t32116 t32117 t32118 t32119 a1 t32123).bind fun bt32126 => ((laws_eqIntS.f k bt32126.1 t32112).bind fun t32130 => (if t32130 = true then (laws_FnExactPathOfThrows.j0 k a1 l2 t32112 t32115 t32123 bt32126.1 bt32126.2 (bt32126.2 != t32115) a0_0 a0_1 a0_2 l0_3 t32116 t32117 t32118 t32119) else (laws_FnExactPathOfThrows.j0 k a1 l2 t32112 t32115 t32123 bt32126.1 bt32126.2 true a0_0 a0_1 a0_2 l0_3 t32116 t32117 t32118 t32119))))) = some r := H
      have A14 := Aside0.mk A140
      clear A140
      replace H := Option.bind_eq_some_iff.mp H
      obtain ⟨t32123, A150, H⟩ := H
      replace H : ((impl_PathOfThrows.f k t32116 t32117 t32118 t32119 a1 t32123).bind fun bt32126 => ((laws_eqIntS.f k bt32126.1 t32112).bind fun t32130 => (if t32130 = true then (laws_FnExactPathOfThrows.j0 k a1 l2 t32112 t32115 t32123 bt32126.1 bt32126.2 (bt32126.2 != t32115) a0_0 a0_1 a0_2 l0_3 t32116 t32117 t32118 t32119) else (laws_FnExactPathOfThrows.j0 k a1 l2 t32112 t32115 t32123 bt32126.1 bt32126.2 true a0_0 a0_1 a0_2 l0_3 t32116 t32117 t32118 t32119)))) = some r := H
      have A15 := Aside0.mk A150
      clear A150
      replace H := Option.bind_eq_some_iff.mp H
      obtain ⟨⟨t32126, t32129⟩, A160, H⟩ := H
      replace H : ((laws_eqIntS.f k t32126 t32112).bind fun t32130 => (if t32130 = true then (laws_FnExactPathOfThrows.j0 k a1 l2 t32112 t32115 t32123 t32126 t32129 (t32129 != t32115) a0_0 a0_1 a0_2 l0_3 t32116 t32117 t32118 t32119) else (laws_FnExactPathOfThrows.j0 k a1 l2 t32112 t32115 t32123 t32126 t32129 true a0_0 a0_1 a0_2 l0_3 t32116 t32117 t32118 t32119))) = some r := H
      have A16 := Aside0.mk A160
      clear A160
      have HC17 := Aside0.mk H
      clear H
      go_enter Try.func16, Try.ntmps16
      go_upto_region 11 with (first | ((with_reducible refine gate_dst (N := 3) rfl ?_); refine box_event ?hg (N := 3) ?hd (cs := #[.int .i64 a0_0, .int .i64 a0_1, .int .i64 a0_2, .slice A0_3 l0_3.length c0_3]) (t := 24) ?hr ?_; (case hd => rfl); (case hg => rfl); (case hr => first | (go_simp; done) | (go_simp; rfl)); intro gb32101 hg w18 hbox hb; have n0_ := Aside0.mk (below_step (by repeat (first | (with_reducible first | exact HB.out | apply below_alloc | apply pw_below_drewN | apply below_drew1) | exact HB.out)) hb); have n1_ := Aside0.mk (hbox); have n2_ := Aside0.mk ((by rw [hg]; exact (below_size (by repeat (first | (with_reducible first | exact HB.out | apply below_alloc | apply pw_below_drewN | apply below_drew1) | exact HB.out))) : w.heap.size ≤ gb32101)); have n3_ := Aside0.mk ((by rw [hg]; exact (below_size (by repeat (first | (with_reducible first | exact HB.out | apply below_alloc | apply pw_below_drewN | apply below_drew1) | exact HB.out))) : w.heap.size ≤ gb32101)); clear HB; have HB := n0_; have BK32101 := n1_; have GW32101 := n2_; have GE32101 := n3_; clear n0_ n1_ n2_ n3_; clear hb hbox hg; have hcz19_0 : w18.cell? ⟨gb32101, 0, none⟩ = some (.int .i64 a0_0) := (blk_cell BK32101.out 0).trans rfl; have hcz19_1 : w18.cell? ⟨gb32101, 1, none⟩ = some (.int .i64 a0_1) := (blk_cell BK32101.out 1).trans rfl; have hcz19_2 : w18.cell? ⟨gb32101, 2, none⟩ = some (.int .i64 a0_2) := (blk_cell BK32101.out 2).trans rfl; have hcz19_3 : w18.cell? ⟨gb32101, 3, none⟩ = some (.slice A0_3 l0_3.length c0_3) := (blk_cell BK32101.out 3).trans rfl; have hfz19_0 := blk_frozen BK32101.out 0; have hfz19_1 := blk_frozen BK32101.out 1; have hfz19_2 := blk_frozen BK32101.out 2; have hfz19_3 := blk_frozen BK32101.out 3) | ((with_reducible refine gate_callee (f := 37) rfl ?_); refine goesL_ (some 24) rfl rfl Try.func37 (by kernel_rfl) rfl #[.agg #[.int .i64 a0_0, .int .i64 a0_1, .int .i64 a0_2, .slice A0_3 l0_3.length c0_3], .int .i64 1048576] rfl (by (try simp only [List.map_toArray, List.map_cons, List.map_nil]); first | done | rfl | (simp only [List.length_drop, List.length_take]; rfl)) ?_; (with_reducible refine (laws_szBoard.calls a0_0 a0_1 a0_2 _ _ l0_3 1048576 t32102 _ ?side1 ?side2 A6.out).mono ?_); (case side1 => repeat (first | exact (Kd.C_below HR0_3.out HB.out) | (with_reducible refine Kd.C_alloc ?_ _) | (with_reducible refine Kd.C_drewN ?_ _) | (with_reducible refine Kd.C_drew ?_))); (case side2 => exact HC0_3.out); rintro e w20 ⟨rfl, hb⟩; refine ⟨_, rfl, ?_⟩; have n0_ := Aside0.mk (blk_below (g := gb32101) (o := .cells #[.int .i64 a0_0, .int .i64 a0_1, .int .i64 a0_2, .slice A0_3 l0_3.length c0_3] 24 (0, 0)) (by (with_reducible repeat (first | refine blk_drewN ?_ _ | refine blk_drew ?_ | refine blk_alloc ?_ _)); exact BK32101.out) hb); have n1_ := Aside0.mk (below_step (by repeat (first | (with_reducible first | exact HB.out | apply below_alloc | apply pw_below_drewN | apply below_drew1 | refine below_set ?_ GE32101.out) | exact HB.out)) hb); clear BK32101; clear HB; have BK32101 := n0_; have HB := n1_; clear n0_ n1_; (try clear hb); (try clear hb2); (try clear hk); (try clear hi); have hcz21_0 : w20.cell? ⟨gb32101, 0, none⟩ = some (.int .i64 a0_0) := (blk_cell BK32101.out 0).trans rfl; have hcz21_1 : w20.cell? ⟨gb32101, 1, none⟩ = some (.int .i64 a0_1) := (blk_cell BK32101.out 1).trans rfl; have hcz21_2 : w20.cell? ⟨gb32101, 2, none⟩ = some (.int .i64 a0_2) := (blk_cell BK32101.out 2).trans rfl; have hcz21_3 : w20.cell? ⟨gb32101, 3, none⟩ = some (.slice A0_3 l0_3.length c0_3) := (blk_cell BK32101.out 3).trans rfl; have hfz21_0 := blk_frozen BK32101.out 0; have hfz21_1 := blk_frozen BK32101.out 1; have hfz21_2 := blk_frozen BK32101.out 2; have hfz21_3 := blk_frozen BK32101.out 3) | ((with_reducible refine gate_callee (f := 39) rfl ?_); refine goesL_ (some 29) rfl rfl Try.func39 (by kernel_rfl) rfl #[.agg #[.int .i64 a0_0, .int .i64 a0_1, .int .i64 a0_2, .slice A0_3 l0_3.length c0_3]] rfl (by (try simp only [List.map_toArray, List.map_cons, List.map_nil]); first | done | rfl | (simp only [List.length_drop, List.length_take]; rfl)) ?_; (with_reducible refine (laws_toBoard.calls k a0_0 a0_1 a0_2 _ _ l0_3 t32103 t32104 t32105 t32106 _ ?side1 ?side2 A11.out).mono ?_); (case side1 => repeat (first | exact (Kd.C_below HR0_3.out HB.out) | (with_reducible refine Kd.C_alloc ?_ _) | (with_reducible refine Kd.C_drewN ?_ _) | (with_reducible refine Kd.C_drew ?_))); (case side2 => exact HC0_3.out); rintro e w22 ⟨v32107, rfl, ho0, hb⟩; refine ⟨_, rfl, ?_⟩; have n0_ := Aside0.mk (Kd.R_lower ho0 (below_size (by repeat (first | (with_reducible first | exact HB.out | apply below_alloc | apply pw_below_drewN | apply below_drew1 | refine below_set ?_ GE32101.out) | exact HB.out)))); have n1_ := Aside0.mk (blk_below (g := gb32101) (o := .cells #[.int .i64 a0_0, .int .i64 a0_1, .int .i64 a0_2, .slice A0_3 l0_3.length c0_3] 24 (0, 0)) (by (with_reducible repeat (first | refine blk_drewN ?_ _ | refine blk_drew ?_ | refine blk_alloc ?_ _)); exact BK32101.out) hb); have n2_ := Aside0.mk (below_step (by repeat (first | (with_reducible first | exact HB.out | apply below_alloc | apply pw_below_drewN | apply below_drew1 | refine below_set ?_ GE32101.out) | exact HB.out)) hb); clear BK32101; clear HB; have HO32108 := n0_; have BK32101 := n1_; have HB := n2_; clear n0_ n1_ n2_; (try clear hb); (try clear hb2); (try clear hk); (try clear hi); (try clear ho0)) | ((with_reducible refine gate_callee (f := 71) rfl ?_); refine goesL_ (some 32) rfl rfl Try.func71 (by kernel_rfl) rfl #[.slice A2 l2.length c2] rfl (by (try simp only [List.map_toArray, List.map_cons, List.map_nil]); first | done | rfl | (simp only [List.length_drop, List.length_take]; rfl)) ?_; (with_reducible refine (laws_toIntS.calls k _ _ l2 t32109 _ ?side1 ?side2 A12.out).mono ?_); (case side1 => repeat (first | exact (Kd.C_below HR2.out HB.out) | (with_reducible refine Kd.C_alloc ?_ _) | (with_reducible refine Kd.C_drewN ?_ _) | (with_reducible refine Kd.C_drew ?_))); (case side2 => exact HC2.out); rintro e w23 ⟨v32110, rfl, ho0, hb⟩; refine ⟨_, rfl, ?_⟩; have n0_ := Aside0.mk (Kd.R_below (by (with_reducible repeat (first | apply Kd.R_alloc | apply Kd.R_drewN | apply Kd.R_drew)); exact HO32108.out) hb); have n1_ := Aside0.mk (Kd.R_lower ho0 (below_size (by repeat (first | (with_reducible first | exact HB.out | apply below_alloc | apply pw_below_drewN | apply below_drew1 | refine below_set ?_ GE32101.out) | exact HB.out)))); have n2_ := Aside0.mk (blk_below (g := gb32101) (o := .cells #[.int .i64 a0_0, .int .i64 a0_1, .int .i64 a0_2, .slice A0_3 l0_3.length c0_3] 24 (0, 0)) (by (with_reducible repeat (first | refine blk_drewN ?_ _ | refine blk_drew ?_ | refine blk_alloc ?_ _)); exact BK32101.out) hb); have n3_ := Aside0.mk (below_step (by repeat (first | (with_reducible first | exact HB.out | apply below_alloc | apply pw_below_drewN | apply below_drew1 | refine below_set ?_ GE32101.out) | exact HB.out)) hb); clear HO32108; clear BK32101; clear HB; have HO32108 := n0_; have HO32111 := n1_; have BK32101 := n2_; have HB := n3_; clear n0_ n1_ n2_ n3_; (try clear hb); (try clear hb2); (try clear hk); (try clear hi); (try clear ho0); obtain ⟨Ao24, co24, eo24⟩ := Kd.R_slice HO32108.out; subst eo24; obtain ⟨Ao25, co25, eo25⟩ := Kd.R_slice HO32111.out; subst eo25) | ((with_reducible refine gate_callee (f := 81) rfl ?_); refine goesL_ (some 33) rfl rfl Try.func81 (by kernel_rfl) rfl #[.agg #[.int .i64 t32103, .int .i64 t32104, .int .i64 t32105, .slice Ao24 t32106.length co24], .int .i64 a1, .slice Ao25 t32109.length co25] rfl (by (try simp only [List.map_toArray, List.map_cons, List.map_nil]); first | done | rfl | (simp only [List.length_drop, List.length_take]; rfl)) ?_; (with_reducible refine (spec_PathOfThrows.calls k t32103 t32104 t32105 _ _ t32106 a1 _ _ t32109 t32112 t32115 _ ?side1 ?side2 ?side3 ?side4 A13.out).mono ?_); (case side1 => repeat (first | exact (Kd.R_reads' HO32108.out).2.2 | (with_reducible refine Kd.C_alloc ?_ _) | (with_reducible refine Kd.C_drewN ?_ _) | (with_reducible refine Kd.C_drew ?_))); (case side2 => exact (Kd.R_reads' HO32108.out).2.1); (case side3 => repeat (first | exact (Kd.R_reads' HO32111.out).2.2 | (with_reducible refine Kd.C_alloc ?_ _) | (with_reducible refine Kd.C_drewN ?_ _) | (with_reducible refine Kd.C_drew ?_))); (case side4 => exact (Kd.R_reads' HO32111.out).2.1); rintro e w26 ⟨v32113, rfl, ho0, hb⟩; refine ⟨_, rfl, ?_⟩; have n0_ := Aside0.mk (Kd.R_below (by (with_reducible repeat (first | apply Kd.R_alloc | apply Kd.R_drewN | apply Kd.R_drew)); exact HO32108.out) hb); have n1_ := Aside0.mk (Kd.R_elder' (by (with_reducible repeat (first | apply Kd.R_alloc | apply Kd.R_drewN | apply Kd.R_drew)); exact HO32111.out) (Kd.R_base ho0) hb); have n2_ := Aside0.mk (Kd.R_lower (Kd.R_new' ho0 (Kd.R_lt (by (with_reducible repeat (first | apply Kd.R_alloc | apply Kd.R_drewN | apply Kd.R_drew)); exact HO32111.out))) (below_size (by repeat (first | (with_reducible first | exact HB.out | apply below_alloc | apply pw_below_drewN | apply below_drew1 | refine below_set ?_ GE32101.out) | exact HB.out)))); have n3_ := Aside0.mk (blk_below (g := gb32101) (o := .cells #[.int .i64 a0_0, .int .i64 a0_1, .int .i64 a0_2, .slice A0_3 l0_3.length c0_3] 24 (0, 0)) (by (with_reducible repeat (first | refine blk_drewN ?_ _ | refine blk_drew ?_ | refine blk_alloc ?_ _)); exact BK32101.out) hb); have n4_ := Aside0.mk (below_step (by repeat (first | (with_reducible first | exact HB.out | apply below_alloc | apply pw_below_drewN | apply below_drew1 | refine below_set ?_ GE32101.out) | exact HB.out)) hb); clear HO32108; clear HO32111; clear BK32101; clear HB; have HO32108 := n0_; have HO32111 := n1_; have HO32114 := n2_; have BK32101 := n3_; have HB := n4_; clear n0_ n1_ n2_ n3_ n4_; (try clear hb); (try clear hb2); (try clear hk); (try clear hi); (try clear ho0); have hcz27_0 : w26.cell? ⟨gb32101, 0, none⟩ = some (.int .i64 a0_0) := (blk_cell BK32101.out 0).trans rfl; have hcz27_1 : w26.cell? ⟨gb32101, 1, none⟩ = some (.int .i64 a0_1) := (blk_cell BK32101.out 1).trans rfl; have hcz27_2 : w26.cell? ⟨gb32101, 2, none⟩ = some (.int .i64 a0_2) := (blk_cell BK32101.out 2).trans rfl; have hcz27_3 : w26.cell? ⟨gb32101, 3, none⟩ = some (.slice A0_3 l0_3.length c0_3) := (blk_cell BK32101.out 3).trans rfl; have hfz27_0 := blk_frozen BK32101.out 0; have hfz27_1 := blk_frozen BK32101.out 1; have hfz27_2 := blk_frozen BK32101.out 2; have hfz27_3 := blk_frozen BK32101.out 3) | ((with_reducible refine gate_callee (f := 39) rfl ?_); refine goesL_ (some 37) rfl rfl Try.func39 (by kernel_rfl) rfl #[.agg #[.int .i64 a0_0, .int .i64 a0_1, .int .i64 a0_2, .slice A0_3 l0_3.length c0_3]] rfl (by (try simp only [List.map_toArray, List.map_cons, List.map_nil]); first | done | rfl | (simp only [List.length_drop, List.length_take]; rfl)) ?_; (with_reducible refine (laws_toBoard.calls k a0_0 a0_1 a0_2 _ _ l0_3 t32116 t32117 t32118 t32119 _ ?side1 ?side2 A14.out).mono ?_); (case side1 => repeat (first | exact (Kd.C_below HR0_3.out HB.out) | (with_reducible refine Kd.C_alloc ?_ _) | (with_reducible refine Kd.C_drewN ?_ _) | (with_reducible refine Kd.C_drew ?_))); (case side2 => exact HC0_3.out); rintro e w28 ⟨v32120, rfl, ho0, hb⟩; refine ⟨_, rfl, ?_⟩; have n0_ := Aside0.mk (Kd.R_elder' (by (with_reducible repeat (first | apply Kd.R_alloc | apply Kd.R_drewN | apply Kd.R_drew)); exact HO32108.out) (Kd.R_base ho0) hb); have n1_ := Aside0.mk (Kd.R_below (by (with_reducible repeat (first | apply Kd.R_alloc | apply Kd.R_drewN | apply Kd.R_drew)); exact HO32111.out) hb); have n2_ := Aside0.mk (Kd.R_below (by (with_reducible repeat (first | apply Kd.R_alloc | apply Kd.R_drewN | apply Kd.R_drew)); exact HO32114.out) hb); have n3_ := Aside0.mk (Kd.R_lower (Kd.R_new' ho0 (Kd.R_lt (by (with_reducible repeat (first | apply Kd.R_alloc | apply Kd.R_drewN | apply Kd.R_drew)); exact HO32108.out))) (below_size (by repeat (first | (with_reducible first | exact HB.out | apply below_alloc | apply pw_below_drewN | apply below_drew1 | refine below_set ?_ GE32101.out) | exact HB.out)))); have n4_ := Aside0.mk (blk_below (g := gb32101) (o := .cells #[.int .i64 a0_0, .int .i64 a0_1, .int .i64 a0_2, .slice A0_3 l0_3.length c0_3] 24 (0, 0)) (by (with_reducible repeat (first | refine blk_drewN ?_ _ | refine blk_drew ?_ | refine blk_alloc ?_ _)); exact BK32101.out) hb); have n5_ := Aside0.mk (below_step (by repeat (first | (with_reducible first | exact HB.out | apply below_alloc | apply pw_below_drewN | apply below_drew1 | refine below_set ?_ GE32101.out) | exact HB.out)) hb); clear HO32108; clear HO32111; clear HO32114; clear BK32101; clear HB; have HO32108 := n0_; have HO32111 := n1_; have HO32114 := n2_; have HO32121 := n3_; have BK32101 := n4_; have HB := n5_; clear n0_ n1_ n2_ n3_ n4_ n5_; (try clear hb); (try clear hb2); (try clear hk); (try clear hi); (try clear ho0)) | ((with_reducible refine gate_dst (N := 10) rfl ?_); refine box_event ?hg (N := 10) ?hd (cs := #[.int .i64 0, .int .i64 0, .int .i64 0, .slice none 0 0]) (t := 32) ?hr ?_; (case hd => rfl); (case hg => rfl); (case hr => first | (go_simp; done) | (go_simp; rfl)); intro gb32122 hg w29 hbox hb; have n0_ := Aside0.mk (Kd.R_below (by (with_reducible repeat (first | apply Kd.R_alloc | apply Kd.R_drewN | apply Kd.R_drew)); exact HO32108.out) hb); have n1_ := Aside0.mk (Kd.R_below (by (with_reducible repeat (first | apply Kd.R_alloc | apply Kd.R_drewN | apply Kd.R_drew)); exact HO32111.out) hb); have n2_ := Aside0.mk (Kd.R_below (by (with_reducible repeat (first | apply Kd.R_alloc | apply Kd.R_drewN | apply Kd.R_drew)); exact HO32114.out) hb); have n3_ := Aside0.mk (Kd.R_below (by (with_reducible repeat (first | apply Kd.R_alloc | apply Kd.R_drewN | apply Kd.R_drew)); exact HO32121.out) hb); have n4_ := Aside0.mk (blk_below (g := gb32101) (o := .cells #[.int .i64 a0_0, .int .i64 a0_1, .int .i64 a0_2, .slice A0_3 l0_3.length c0_3] 24 (0, 0)) (by (with_reducible repeat (first | refine blk_drewN ?_ _ | refine blk_drew ?_ | refine blk_alloc ?_ _)); exact BK32101.out) hb); have n5_ := Aside0.mk (below_step (by repeat (first | (with_reducible first | exact HB.out | apply below_alloc | apply pw_below_drewN | apply below_drew1 | refine below_set ?_ GE32101.out) | exact HB.out)) hb); have n6_ := Aside0.mk (hbox); have n7_ := Aside0.mk ((by rw [hg]; exact (below_size (by repeat (first | (with_reducible first | exact HB.out | apply below_alloc | apply pw_below_drewN | apply below_drew1 | refine below_set ?_ GE32101.out) | exact HB.out))) : w.heap.size ≤ gb32122)); have n8_ := Aside0.mk ((by rw [hg]; exact (below_size (by repeat (first | (with_reducible first | exact HB.out | apply below_alloc | apply pw_below_drewN | apply below_drew1 | refine below_set ?_ GE32101.out) | exact HB.out))) : w.heap.size ≤ gb32122)); have n9_ := Aside0.mk ((by rw [hg]; exact Nat.ne_of_lt (blk_lt (g := gb32101) (o := .cells #[.int .i64 a0_0, .int .i64 a0_1, .int .i64 a0_2, .slice A0_3 l0_3.length c0_3] 24 (0, 0)) (by (with_reducible repeat (first | refine blk_drewN ?_ _ | refine blk_drew ?_ | refine blk_alloc ?_ _)); exact BK32101.out)) : gb32101 ≠ gb32122)); have n10_ := Aside0.mk ((by rw [hg]; exact Nat.ne_of_gt (blk_lt (g := gb32101) (o := .cells #[.int .i64 a0_0, .int .i64 a0_1, .int .i64 a0_2, .slice A0_3 l0_3.length c0_3] 24 (0, 0)) (by (with_reducible repeat (first | refine blk_drewN ?_ _ | refine blk_drew ?_ | refine blk_alloc ?_ _)); exact BK32101.out)) : gb32122 ≠ gb32101)); clear HO32108; clear HO32111; clear HO32114; clear HO32121; clear BK32101; clear HB; have HO32108 := n0_; have HO32111 := n1_; have HO32114 := n2_; have HO32121 := n3_; have BK32101 := n4_; have HB := n5_; have BK32122 := n6_; have GW32122 := n7_; have GE32122 := n8_; have NB32101_32122 := n9_; have NB32122_32101 := n10_; clear n0_ n1_ n2_ n3_ n4_ n5_ n6_ n7_ n8_ n9_ n10_; clear hb hbox hg; have hnb30 := NB32122_32101.out; have hnc30 := NB32101_32122.out; have hcz31_0 : w29.cell? ⟨gb32122, 0, none⟩ = some (.int .i64 0) := (blk_cell BK32122.out 0).trans rfl; have hcz31_1 : w29.cell? ⟨gb32122, 1, none⟩ = some (.int .i64 0) := (blk_cell BK32122.out 1).trans rfl; have hcz31_2 : w29.cell? ⟨gb32122, 2, none⟩ = some (.int .i64 0) := (blk_cell BK32122.out 2).trans rfl; have hcz31_3 : w29.cell? ⟨gb32122, 3, none⟩ = some (.slice none 0 0) := (blk_cell BK32122.out 3).trans rfl; have hfz31_0 := blk_frozen BK32122.out 0; have hfz31_1 := blk_frozen BK32122.out 1; have hfz31_2 := blk_frozen BK32122.out 2; have hfz31_3 := blk_frozen BK32122.out 3; obtain ⟨Ao32, co32, eo32⟩ := Kd.R_slice HO32121.out; subst eo32) | ((with_reducible refine gate_callee (f := 71) rfl ?_); refine goesL_ (some 39) rfl rfl Try.func71 (by kernel_rfl) rfl #[.slice A2 l2.length c2] rfl (by (try simp only [List.map_toArray, List.map_cons, List.map_nil]); first | done | rfl | (simp only [List.length_drop, List.length_take]; rfl)) ?_; (with_reducible refine (laws_toIntS.calls k _ _ l2 t32123 _ ?side1 ?side2 A15.out).mono ?_); (case side1 => exact Kd.C_below HR2.out (by repeat (first | (with_reducible first | exact HB.out | apply below_alloc | apply pw_below_drewN | apply below_drew1 | refine below_set ?_ GE32101.out | refine below_set ?_ GE32122.out) | exact HB.out))); (case side2 => exact HC2.out); rintro e w33 ⟨v32124, rfl, ho0, hb⟩; refine ⟨_, rfl, ?_⟩; have n0_ := Aside0.mk (Kd.R_below (by (with_reducible repeat (first | apply Kd.R_alloc | apply Kd.R_drewN | apply Kd.R_drew)); exact (Kd.R_mono (Kd.R_far (p := ⟨gb32122, 3, none⟩) (Kd.R_far (p := ⟨gb32122, 2, none⟩) (Kd.R_far (p := ⟨gb32122, 1, none⟩) (Kd.R_far (p := ⟨gb32122, 0, none⟩) (Kd.R_types HO32108.out BK32122.out (by decide)) (fun _ hk => hk.2) (.int .i64 t32116)) (fun _ hk => hk.2) (.int .i64 t32117)) (fun _ hk => hk.2) (.int .i64 t32118)) (fun _ hk => hk.2) (.slice Ao32 t32119.length co32)) (fun _ h_ => h_.1))) hb); have n1_ := Aside0.mk (Kd.R_elder' (by (with_reducible repeat (first | apply Kd.R_alloc | apply Kd.R_drewN | apply Kd.R_drew)); exact (Kd.R_mono (Kd.R_far (p := ⟨gb32122, 3, none⟩) (Kd.R_far (p := ⟨gb32122, 2, none⟩) (Kd.R_far (p := ⟨gb32122, 1, none⟩) (Kd.R_far (p := ⟨gb32122, 0, none⟩) (Kd.R_types HO32111.out BK32122.out (by decide)) (fun _ hk => hk.2) (.int .i64 t32116)) (fun _ hk => hk.2) (.int .i64 t32117)) (fun _ hk => hk.2) (.int .i64 t32118)) (fun _ hk => hk.2) (.slice Ao32 t32119.length co32)) (fun _ h_ => h_.1))) (Kd.R_base ho0) hb); have n2_ := Aside0.mk (Kd.R_elder' (by (with_reducible repeat (first | apply Kd.R_alloc | apply Kd.R_drewN | apply Kd.R_drew)); exact (Kd.R_mono (Kd.R_far (p := ⟨gb32122, 3, none⟩) (Kd.R_far (p := ⟨gb32122, 2, none⟩) (Kd.R_far (p := ⟨gb32122, 1, none⟩) (Kd.R_far (p := ⟨gb32122, 0, none⟩) (Kd.R_types HO32114.out BK32122.out (by decide)) (fun _ hk => hk.2) (.int .i64 t32116)) (fun _ hk => hk.2) (.int .i64 t32117)) (fun _ hk => hk.2) (.int .i64 t32118)) (fun _ hk => hk.2) (.slice Ao32 t32119.length co32)) (fun _ h_ => h_.1))) (Kd.R_base ho0) hb); have n3_ := Aside0.mk (Kd.R_below (by (with_reducible repeat (first | apply Kd.R_alloc | apply Kd.R_drewN | apply Kd.R_drew)); exact (Kd.R_mono (Kd.R_far (p := ⟨gb32122, 3, none⟩) (Kd.R_far (p := ⟨gb32122, 2, none⟩) (Kd.R_far (p := ⟨gb32122, 1, none⟩) (Kd.R_far (p := ⟨gb32122, 0, none⟩) (Kd.R_types HO32121.out BK32122.out (by decide)) (fun _ hk => hk.2) (.int .i64 t32116)) (fun _ hk => hk.2) (.int .i64 t32117)) (fun _ hk => hk.2) (.int .i64 t32118)) (fun _ hk => hk.2) (.slice Ao32 t32119.length co32)) (fun _ h_ => h_.1))) hb); have n4_ := Aside0.mk (Kd.R_lower (Kd.R_new' (Kd.R_new' ho0 (Kd.R_lt (by (with_reducible repeat (first | apply Kd.R_alloc | apply Kd.R_drewN | apply Kd.R_drew)); exact (Kd.R_mono (Kd.R_far (p := ⟨gb32122, 3, none⟩) (Kd.R_far (p := ⟨gb32122, 2, none⟩) (Kd.R_far (p := ⟨gb32122, 1, none⟩) (Kd.R_far (p := ⟨gb32122, 0, none⟩) (Kd.R_types HO32111.out BK32122.out (by decide)) (fun _ hk => hk.2) (.int .i64 t32116)) (fun _ hk => hk.2) (.int .i64 t32117)) (fun _ hk => hk.2) (.int .i64 t32118)) (fun _ hk => hk.2) (.slice Ao32 t32119.length co32)) (fun _ h_ => h_.1))))) (Kd.R_lt (by (with_reducible repeat (first | apply Kd.R_alloc | apply Kd.R_drewN | apply Kd.R_drew)); exact (Kd.R_mono (Kd.R_far (p := ⟨gb32122, 3, none⟩) (Kd.R_far (p := ⟨gb32122, 2, none⟩) (Kd.R_far (p := ⟨gb32122, 1, none⟩) (Kd.R_far (p := ⟨gb32122, 0, none⟩) (Kd.R_types HO32114.out BK32122.out (by decide)) (fun _ hk => hk.2) (.int .i64 t32116)) (fun _ hk => hk.2) (.int .i64 t32117)) (fun _ hk => hk.2) (.int .i64 t32118)) (fun _ hk => hk.2) (.slice Ao32 t32119.length co32)) (fun _ h_ => h_.1))))) (below_size (by repeat (first | (with_reducible first | exact HB.out | apply below_alloc | apply pw_below_drewN | apply below_drew1 | refine below_set ?_ GE32101.out | refine below_set ?_ GE32122.out) | exact HB.out)))); have n5_ := Aside0.mk (blk_below (g := gb32101) (o := .cells #[.int .i64 a0_0, .int .i64 a0_1, .int .i64 a0_2, .slice A0_3 l0_3.length c0_3] 24 (0, 0)) (by (with_reducible repeat (first | refine blk_drewN ?_ _ | refine blk_drew ?_ | refine blk_alloc ?_ _)); refine blk_far ?_ NB32101_32122.out _; (with_reducible repeat (first | refine blk_drewN ?_ _ | refine blk_drew ?_ | refine blk_alloc ?_ _)); refine blk_far ?_ NB32101_32122.out _; (with_reducible repeat (first | refine blk_drewN ?_ _ | refine blk_drew ?_ | refine blk_alloc ?_ _)); refine blk_far ?_ NB32101_32122.out _; (with_reducible repeat (first | refine blk_drewN ?_ _ | refine blk_drew ?_ | refine blk_alloc ?_ _)); refine blk_far ?_ NB32101_32122.out _; (with_reducible repeat (first | refine blk_drewN ?_ _ | refine blk_drew ?_ | refine blk_alloc ?_ _)); exact BK32101.out) hb); have n6_ := Aside0.mk (blk_below (g := gb32122) (o := .cells #[.int .i64 t32116, .int .i64 t32117, .int .i64 t32118, .slice Ao32 t32119.length co32] 32 (0, 0)) (by (with_reducible repeat (first | refine blk_drewN ?_ _ | refine blk_drew ?_ | refine blk_alloc ?_ _)); refine blk_put (cs := #[.int .i64 t32116, .int .i64 t32117, .int .i64 t32118, .slice none 0 0]) ?_ 3 _ rfl; (with_reducible repeat (first | refine blk_drewN ?_ _ | refine blk_drew ?_ | refine blk_alloc ?_ _)); refine blk_put (cs := #[.int .i64 t32116, .int .i64 t32117, .int .i64 0, .slice none 0 0]) ?_ 2 _ rfl; (with_reducible repeat (first | refine blk_drewN ?_ _ | refine blk_drew ?_ | refine blk_alloc ?_ _)); refine blk_put (cs := #[.int .i64 t32116, .int .i64 0, .int .i64 0, .slice none 0 0]) ?_ 1 _ rfl; (with_reducible repeat (first | refine blk_drewN ?_ _ | refine blk_drew ?_ | refine blk_alloc ?_ _)); refine blk_put (cs := #[.int .i64 0, .int .i64 0, .int .i64 0, .slice none 0 0]) ?_ 0 _ rfl; (with_reducible repeat (first | refine blk_drewN ?_ _ | refine blk_drew ?_ | refine blk_alloc ?_ _)); exact BK32122.out) hb); have n7_ := Aside0.mk (below_step (by repeat (first | (with_reducible first | exact HB.out | apply below_alloc | apply pw_below_drewN | apply below_drew1 | refine below_set ?_ GE32101.out | refine below_set ?_ GE32122.out) | exact HB.out)) hb); clear HO32108; clear HO32111; clear HO32114; clear HO32121; clear BK32101; clear BK32122; clear HB; have HO32108 := n0_; have HO32111 := n1_; have HO32114 := n2_; have HO32121 := n3_; have HO32125 := n4_; have BK32101 := n5_; have BK32122 := n6_; have HB := n7_; clear n0_ n1_ n2_ n3_ n4_ n5_ n6_ n7_; (try clear hb); (try clear hb2); (try clear hk); (try clear hi); (try clear ho0); have hcz34_0 : w33.cell? ⟨gb32122, 0, none⟩ = some (.int .i64 t32116) := (blk_cell BK32122.out 0).trans rfl; have hcz34_1 : w33.cell? ⟨gb32122, 1, none⟩ = some (.int .i64 t32117) := (blk_cell BK32122.out 1).trans rfl; have hcz34_2 : w33.cell? ⟨gb32122, 2, none⟩ = some (.int .i64 t32118) := (blk_cell BK32122.out 2).trans rfl; have hcz34_3 : w33.cell? ⟨gb32122, 3, none⟩ = some (.slice Ao32 t32119.length co32) := (blk_cell BK32122.out 3).trans rfl; have hfz34_0 := blk_frozen BK32122.out 0; have hfz34_1 := blk_frozen BK32122.out 1; have hfz34_2 := blk_frozen BK32122.out 2; have hfz34_3 := blk_frozen BK32122.out 3; obtain ⟨Ao35, co35, eo35⟩ := Kd.R_slice HO32125.out; subst eo35) | ((with_reducible refine gate_callee (f := 82) rfl ?_); refine goesL_ (some 44) rfl rfl Try.func82 (by kernel_rfl) rfl #[.agg #[.int .i64 t32116, .int .i64 t32117, .int .i64 t32118, .slice Ao32 t32119.length co32], .int .i64 a1, .slice Ao35 t32123.length co35] rfl (by (try simp only [List.map_toArray, List.map_cons, List.map_nil]); first | done | rfl | (simp only [List.length_drop, List.length_take]; rfl)) ?_; (with_reducible refine (impl_PathOfThrows.calls k t32116 t32117 t32118 _ _ t32119 a1 _ _ t32123 t32126 t32129 _ ?side1 ?side2 ?side3 ?side4 A16.out).mono ?_); (case side1 => repeat (first | exact (Kd.R_reads' HO32121.out).2.2 | (with_reducible refine Kd.C_alloc ?_ _) | (with_reducible refine Kd.C_drewN ?_ _) | (with_reducible refine Kd.C_drew ?_))); (case side2 => exact (Kd.R_reads' HO32121.out).2.1); (case side3 => repeat (first | exact (Kd.R_reads' HO32125.out).2.2 | (with_reducible refine Kd.C_alloc ?_ _) | (with_reducible refine Kd.C_drewN ?_ _) | (with_reducible refine Kd.C_drew ?_))); (case side4 => exact (Kd.R_reads' HO32125.out).2.1); rintro e w36 ⟨v32127, rfl, ho0, hb⟩; refine ⟨_, rfl, ?_⟩; have n0_ := Aside0.mk (Kd.R_below (by (with_reducible repeat (first | apply Kd.R_alloc | apply Kd.R_drewN | apply Kd.R_drew)); exact HO32108.out) hb); have n1_ := Aside0.mk (Kd.R_elder' (by (with_reducible repeat (first | apply Kd.R_alloc | apply Kd.R_drewN | apply Kd.R_drew)); exact HO32111.out) (Kd.R_base ho0) hb); have n2_ := Aside0.mk (Kd.R_elder' (by (with_reducible repeat (first | apply Kd.R_alloc | apply Kd.R_drewN | apply Kd.R_drew)); exact HO32114.out) (Kd.R_base ho0) hb); have n3_ := Aside0.mk (Kd.R_below (by (with_reducible repeat (first | apply Kd.R_alloc | apply Kd.R_drewN | apply Kd.R_drew)); exact HO32121.out) hb); have n4_ := Aside0.mk (Kd.R_elder' (by (with_reducible repeat (first | apply Kd.R_alloc | apply Kd.R_drewN | apply Kd.R_drew)); exact HO32125.out) (Kd.R_base ho0) hb); have n5_ := Aside0.mk (Kd.R_lower (Kd.R_new' (Kd.R_new' (Kd.R_new' ho0 (Kd.R_lt (by (with_reducible repeat (first | apply Kd.R_alloc | apply Kd.R_drewN | apply Kd.R_drew)); exact HO32111.out))) (Kd.R_lt (by (with_reducible repeat (first | apply Kd.R_alloc | apply Kd.R_drewN | apply Kd.R_drew)); exact HO32114.out))) (Kd.R_lt (by (with_reducible repeat (first | apply Kd.R_alloc | apply Kd.R_drewN | apply Kd.R_drew)); exact HO32125.out))) (below_size (by repeat (first | (with_reducible first | exact HB.out | apply below_alloc | apply pw_below_drewN | apply below_drew1 | refine below_set ?_ GE32101.out | refine below_set ?_ GE32122.out) | exact HB.out)))); have n6_ := Aside0.mk (blk_below (g := gb32101) (o := .cells #[.int .i64 a0_0, .int .i64 a0_1, .int .i64 a0_2, .slice A0_3 l0_3.length c0_3] 24 (0, 0)) (by (with_reducible repeat (first | refine blk_drewN ?_ _ | refine blk_drew ?_ | refine blk_alloc ?_ _)); exact BK32101.out) hb); have n7_ := Aside0.mk (blk_below (g := gb32122) (o := .cells #[.int .i64 t32116, .int .i64 t32117, .int .i64 t32118, .slice Ao32 t32119.length co32] 32 (0, 0)) (by (with_reducible repeat (first | refine blk_drewN ?_ _ | refine blk_drew ?_ | refine blk_alloc ?_ _)); exact BK32122.out) hb); have n8_ := Aside0.mk (below_step (by repeat (first | (with_reducible first | exact HB.out | apply below_alloc | apply pw_below_drewN | apply below_drew1 | refine below_set ?_ GE32101.out | refine below_set ?_ GE32122.out) | exact HB.out)) hb); clear HO32108; clear HO32111; clear HO32114; clear HO32121; clear HO32125; clear BK32101; clear BK32122; clear HB; have HO32108 := n0_; have HO32111 := n1_; have HO32114 := n2_; have HO32121 := n3_; have HO32125 := n4_; have HO32128 := n5_; have BK32101 := n6_; have BK32122 := n7_; have HB := n8_; clear n0_ n1_ n2_ n3_ n4_ n5_ n6_ n7_ n8_; (try clear hb); (try clear hb2); (try clear hk); (try clear hi); (try clear ho0)))
      (try simp only [Act.put, List.setIfInBounds_toArray, List.set_cons_zero, List.set_cons_succ])
      go_cut [55] (fun v55 wc => ∃ (kq : Nat) (x55_16 : Bool), v55 = .bool x55_16 ∧ Aside0 (laws_FnExactPathOfThrows.j0 kq a1 l2 t32112 t32115 t32123 t32126 t32129 x55_16 a0_0 a0_1 a0_2 l0_3 t32116 t32117 t32118 t32119 = some r) ∧ Aside0 (kq ≤ k) ∧ Aside0 (Kd.R (Kd.int .i64) 3 wc w.heap.size (fun k_ => some k_ ≠ ((.slice Ao35 t32123.length co35) : Value).ownBlock ∧ some k_ ≠ (v32127 : Value).ownBlock) v32113 t32112) ∧ Aside0 (Kd.R (Kd.int .i64) 3 wc w.heap.size (fun k_ => some k_ ≠ (v32113 : Value).ownBlock ∧ some k_ ≠ (v32127 : Value).ownBlock) (.slice Ao35 t32123.length co35) t32123) ∧ Aside0 (Kd.R (Kd.int .i64) 3 wc w.heap.size (fun k_ => some k_ ≠ (v32113 : Value).ownBlock ∧ some k_ ≠ ((.slice Ao35 t32123.length co35) : Value).ownBlock) v32127 t32126) ∧ Aside0 (Kd.R k27 27 wc w.heap.size (fun _ => True) (.slice Ao32 t32119.length co32) t32119) ∧ Aside0 (wc.heap[gb32101]? = some (.cells #[.int .i64 a0_0, .int .i64 a0_1, .int .i64 a0_2, (.slice A0_3 l0_3.length c0_3)] 24 (0, 0))) ∧ Aside0 (wc.heap[gb32122]? = some (.cells #[.int .i64 t32116, .int .i64 t32117, .int .i64 t32118, (.slice Ao32 t32119.length co32)] 32 (0, 0))) ∧ Aside0 (Below w.heap.size w wc))
      case first =>
        have H := HC17.out
        clear HC17
        replace H := Option.bind_eq_some_iff.mp H
        obtain ⟨t32130, A370, H⟩ := H
        replace H : (if t32130 = true then (laws_FnExactPathOfThrows.j0 k a1 l2 t32112 t32115 t32123 t32126 t32129 (t32129 != t32115) a0_0 a0_1 a0_2 l0_3 t32116 t32117 t32118 t32119) else (laws_FnExactPathOfThrows.j0 k a1 l2 t32112 t32115 t32123 t32126 t32129 true a0_0 a0_1 a0_2 l0_3 t32116 t32117 t32118 t32119)) = some r := H
        have A37 := Aside0.mk A370
        clear A370
        by_cases c38 : t32130 = true
        · subst c38
          have H1 : (laws_FnExactPathOfThrows.j0 k a1 l2 t32112 t32115 t32123 t32126 t32129 (t32129 != t32115) a0_0 a0_1 a0_2 l0_3 t32116 t32117 t32118 t32119) = some r := by rw [if_pos rfl] at H; exact H
          clear H
          have H := H1
          clear H1
          have H' := Aside0.mk H
          clear H
          obtain ⟨Ao39, co39, eo39⟩ := Kd.R_slice HO32128.out
          subst eo39
          obtain ⟨Ao40, co40, eo40⟩ := Kd.R_slice HO32114.out
          subst eo40
          go_wp2_with (first | ((with_reducible refine gate_callee (f := 67) rfl ?_); refine goesL_ (some 49) rfl rfl Try.func67 (by kernel_rfl) rfl #[.slice Ao39 t32126.length co39, .slice Ao40 t32112.length co40] rfl (by (try simp only [List.map_toArray, List.map_cons, List.map_nil]); first | done | rfl | (simp only [List.length_drop, List.length_take]; rfl)) ?_; (with_reducible refine (laws_eqIntS.calls k _ _ t32126 _ _ t32112 true _ ?side1 ?side2 ?side3 ?side4 A37.out).mono ?_); (case side1 => repeat (first | exact (Kd.R_reads' HO32128.out).2.2 | (with_reducible refine Kd.C_alloc ?_ _) | (with_reducible refine Kd.C_drewN ?_ _) | (with_reducible refine Kd.C_drew ?_))); (case side2 => exact (Kd.R_reads' HO32128.out).2.1); (case side3 => repeat (first | exact (Kd.R_reads' HO32114.out).2.2 | (with_reducible refine Kd.C_alloc ?_ _) | (with_reducible refine Kd.C_drewN ?_ _) | (with_reducible refine Kd.C_drew ?_))); (case side4 => exact (Kd.R_reads' HO32114.out).2.1); rintro e w' ⟨rfl, ⟨nd, rfl⟩⟩; refine ⟨_, rfl, ?_⟩))
          go_meet
          case rel => exact ⟨_, ((t32129 != t32115)), (by first | rfl | (simp; done) | (simp [*]; done)), H', ⟨by first | omega | exact Nat.le_refl _⟩, ⟨by (with_reducible repeat (first | apply Kd.R_alloc | apply Kd.R_drewN | apply Kd.R_drew)); exact Kd.R_mono HO32114.out (fun _ hk => ⟨hk.1.2, hk.2⟩)⟩, ⟨by (with_reducible repeat (first | apply Kd.R_alloc | apply Kd.R_drewN | apply Kd.R_drew)); exact Kd.R_mono HO32125.out (fun _ hk => ⟨hk.1.2, hk.2⟩)⟩, ⟨by (with_reducible repeat (first | apply Kd.R_alloc | apply Kd.R_drewN | apply Kd.R_drew)); exact Kd.R_mono HO32128.out (fun _ hk => ⟨hk.1.2, hk.2⟩)⟩, ⟨by (with_reducible repeat (first | apply Kd.R_alloc | apply Kd.R_drewN | apply Kd.R_drew)); exact Kd.R_mono HO32121.out (fun _ hk => trivial)⟩, ⟨by (with_reducible repeat (first | refine blk_drewN ?_ _ | refine blk_drew ?_ | refine blk_alloc ?_ _)); exact BK32101.out⟩, ⟨by (with_reducible repeat (first | refine blk_drewN ?_ _ | refine blk_drew ?_ | refine blk_alloc ?_ _)); exact BK32122.out⟩, ⟨by repeat (first | (with_reducible first | exact HB.out | apply below_alloc | apply pw_below_drewN | apply below_drew1 | refine below_set ?_ GE32101.out | refine below_set ?_ GE32122.out) | exact HB.out)⟩⟩
        · replace c38 := Bool.eq_false_iff.mpr c38
          subst c38
          have H1 : (laws_FnExactPathOfThrows.j0 k a1 l2 t32112 t32115 t32123 t32126 t32129 true a0_0 a0_1 a0_2 l0_3 t32116 t32117 t32118 t32119) = some r := by rw [if_neg (show ¬ (false = true) by decide)] at H; exact H
          clear H
          have H := H1
          clear H1
          have H' := Aside0.mk H
          clear H
          obtain ⟨Ao41, co41, eo41⟩ := Kd.R_slice HO32128.out
          subst eo41
          obtain ⟨Ao42, co42, eo42⟩ := Kd.R_slice HO32114.out
          subst eo42
          go_wp2_with (first | ((with_reducible refine gate_callee (f := 67) rfl ?_); refine goesL_ (some 49) rfl rfl Try.func67 (by kernel_rfl) rfl #[.slice Ao41 t32126.length co41, .slice Ao42 t32112.length co42] rfl (by (try simp only [List.map_toArray, List.map_cons, List.map_nil]); first | done | rfl | (simp only [List.length_drop, List.length_take]; rfl)) ?_; (with_reducible refine (laws_eqIntS.calls k _ _ t32126 _ _ t32112 false _ ?side1 ?side2 ?side3 ?side4 A37.out).mono ?_); (case side1 => repeat (first | exact (Kd.R_reads' HO32128.out).2.2 | (with_reducible refine Kd.C_alloc ?_ _) | (with_reducible refine Kd.C_drewN ?_ _) | (with_reducible refine Kd.C_drew ?_))); (case side2 => exact (Kd.R_reads' HO32128.out).2.1); (case side3 => repeat (first | exact (Kd.R_reads' HO32114.out).2.2 | (with_reducible refine Kd.C_alloc ?_ _) | (with_reducible refine Kd.C_drewN ?_ _) | (with_reducible refine Kd.C_drew ?_))); (case side4 => exact (Kd.R_reads' HO32114.out).2.1); rintro e w' ⟨rfl, ⟨nd, rfl⟩⟩; refine ⟨_, rfl, ?_⟩))
          go_meet
          case rel => exact ⟨_, (true), (by first | rfl | (simp; done) | (simp [*]; done)), H', ⟨by first | omega | exact Nat.le_refl _⟩, ⟨by (with_reducible repeat (first | apply Kd.R_alloc | apply Kd.R_drewN | apply Kd.R_drew)); exact Kd.R_mono HO32114.out (fun _ hk => ⟨hk.1.2, hk.2⟩)⟩, ⟨by (with_reducible repeat (first | apply Kd.R_alloc | apply Kd.R_drewN | apply Kd.R_drew)); exact Kd.R_mono HO32125.out (fun _ hk => ⟨hk.1.2, hk.2⟩)⟩, ⟨by (with_reducible repeat (first | apply Kd.R_alloc | apply Kd.R_drewN | apply Kd.R_drew)); exact Kd.R_mono HO32128.out (fun _ hk => ⟨hk.1.2, hk.2⟩)⟩, ⟨by (with_reducible repeat (first | apply Kd.R_alloc | apply Kd.R_drewN | apply Kd.R_drew)); exact Kd.R_mono HO32121.out (fun _ hk => trivial)⟩, ⟨by (with_reducible repeat (first | refine blk_drewN ?_ _ | refine blk_drew ?_ | refine blk_alloc ?_ _)); exact BK32101.out⟩, ⟨by (with_reducible repeat (first | refine blk_drewN ?_ _ | refine blk_drew ?_ | refine blk_alloc ?_ _)); exact BK32122.out⟩, ⟨by repeat (first | (with_reducible first | exact HB.out | apply below_alloc | apply pw_below_drewN | apply below_drew1 | refine below_set ?_ GE32101.out | refine below_set ?_ GE32122.out) | exact HB.out)⟩⟩
      case rest =>
        clear HC17
        try clear c1
        try clear c2
        try clear p2
        try clear c3
        try clear c4
        try clear c4b0
        try clear c4b1
        try clear c6
        try clear c7
        try clear c7b0
        try clear c8
        try clear c16
        try clear c30
        try clear c37
        try clear c38
        try clear c39
        try clear hcz19_0
        try clear hcz19_1
        try clear hcz19_2
        try clear hcz19_3
        try clear hcz21_0
        try clear hcz21_1
        try clear hcz21_2
        try clear hcz21_3
        try clear hcz27_0
        try clear hcz27_1
        try clear hcz27_2
        try clear hcz27_3
        try clear hcz31_0
        try clear hcz31_1
        try clear hcz31_2
        try clear hcz31_3
        try clear hcz34_0
        try clear hcz34_1
        try clear hcz34_2
        try clear hcz34_3
        try clear hcz9_0
        try clear hcz9_1
        try clear hcz9_2
        try clear hcz9_3
        try clear hfz19_0
        try clear hfz19_1
        try clear hfz19_2
        try clear hfz19_3
        try clear hfz21_0
        try clear hfz21_1
        try clear hfz21_2
        try clear hfz21_3
        try clear hfz27_0
        try clear hfz27_1
        try clear hfz27_2
        try clear hfz27_3
        try clear hfz31_0
        try clear hfz31_1
        try clear hfz31_2
        try clear hfz31_3
        try clear hfz34_0
        try clear hfz34_1
        try clear hfz34_2
        try clear hfz34_3
        try clear hfz9_0
        try clear hfz9_1
        try clear hfz9_2
        try clear hfz9_3
        obtain ⟨kq, x55_16, rfl, HA, HJ16, HO_8, HO_11, HO_12, HO_32123003, BK32101, BK32122, HB⟩ := hcut
        cases kq with
        | zero => exact absurd HA.out (by simp [laws_FnExactPathOfThrows.j0])
        | succ kj16 =>
          have H := HA.out
          clear HA
          simp only [laws_FnExactPathOfThrows.j0] at H
          by_cases c43 : x55_16 = true
          · subst c43
            have H1 : (some false) = some r := by rw [if_pos rfl] at H; exact H
            clear H
            have H := H1
            clear H1
            obtain rfl := Option.some.inj H
            go_wp2
            go_ret
            exact ⟨by first | rfl | (simp [errW_none, errW_some] <;> rfl) | (simp [*, errW_none, errW_some] <;> rfl), by repeat (first | (with_reducible first | exact HB.out | apply below_alloc | apply pw_below_drewN | apply below_drew1 | refine below_set ?_ GE32101.out | refine below_set ?_ GE32122.out) | exact HB.out)⟩
          · replace c43 := Bool.eq_false_iff.mpr c43
            subst c43
            have H1 : ((laws_toBoard.f kj16 a0_0 a0_1 a0_2 l0_3).bind fun bt32131 => ((laws_eqBoard.f kj16 t32116 t32117 t32118 t32119 bt32131.1 bt32131.2.1 bt32131.2.2.1 bt32131.2.2.2).bind fun t32137 => (if t32137 = true then ((laws_toIntS.f kj16 l2).bind fun t32138 => ((laws_eqIntS.f kj16 t32123 t32138).bind fun t32141 => (if t32141 = true then ((laws_markBoard.f kj16 t32116 t32117 t32118 t32119 1).bind fun bt32142 => ((laws_markIntS.f kj16 t32123 bt32142.1).bind fun bt32144 => (if bt32144.1 < 0 then (laws_FnExactPathOfThrows.j1 kj16 a1 l2 t32112 t32115 t32126 true a0_0 a0_1 a0_2 l0_3) else ((laws_eqIntS.f kj16 t32126 t32112).bind fun t32146 => (if t32146 = true then (laws_FnExactPathOfThrows.j1 kj16 a1 l2 t32112 t32115 t32126 (t32129 != t32115) a0_0 a0_1 a0_2 l0_3) else (laws_FnExactPathOfThrows.j1 kj16 a1 l2 t32112 t32115 t32126 true a0_0 a0_1 a0_2 l0_3)))))) else (some false)))) else (some false)))) = some r := by rw [if_neg (show ¬ (false = true) by decide)] at H; exact H
            clear H
            have H := H1
            clear H1
            replace H := Option.bind_eq_some_iff.mp H
            obtain ⟨⟨t32131, t32132, t32133, t32134⟩, A440, H⟩ := H
            replace H : ((laws_eqBoard.f kj16 t32116 t32117 t32118 t32119 t32131 t32132 t32133 t32134).bind fun t32137 => (if t32137 = true then ((laws_toIntS.f kj16 l2).bind fun t32138 => ((laws_eqIntS.f kj16 t32123 t32138).bind fun t32141 => (if t32141 = true then ((laws_markBoard.f kj16 t32116 t32117 t32118 t32119 1).bind fun bt32142 => ((laws_markIntS.f kj16 t32123 bt32142.1).bind fun bt32144 => (if bt32144.1 < 0 then (laws_FnExactPathOfThrows.j1 kj16 a1 l2 t32112 t32115 t32126 true a0_0 a0_1 a0_2 l0_3) else ((laws_eqIntS.f kj16 t32126 t32112).bind fun t32146 => (if t32146 = true then (laws_FnExactPathOfThrows.j1 kj16 a1 l2 t32112 t32115 t32126 (t32129 != t32115) a0_0 a0_1 a0_2 l0_3) else (laws_FnExactPathOfThrows.j1 kj16 a1 l2 t32112 t32115 t32126 true a0_0 a0_1 a0_2 l0_3)))))) else (some false)))) else (some false))) = some r := H
            have A44 := Aside0.mk A440
            clear A440
            replace H := Option.bind_eq_some_iff.mp H
            obtain ⟨t32137, A450, H⟩ := H
            replace H : (if t32137 = true then ((laws_toIntS.f kj16 l2).bind fun t32138 => ((laws_eqIntS.f kj16 t32123 t32138).bind fun t32141 => (if t32141 = true then ((laws_markBoard.f kj16 t32116 t32117 t32118 t32119 1).bind fun bt32142 => ((laws_markIntS.f kj16 t32123 bt32142.1).bind fun bt32144 => (if bt32144.1 < 0 then (laws_FnExactPathOfThrows.j1 kj16 a1 l2 t32112 t32115 t32126 true a0_0 a0_1 a0_2 l0_3) else ((laws_eqIntS.f kj16 t32126 t32112).bind fun t32146 => (if t32146 = true then (laws_FnExactPathOfThrows.j1 kj16 a1 l2 t32112 t32115 t32126 (t32129 != t32115) a0_0 a0_1 a0_2 l0_3) else (laws_FnExactPathOfThrows.j1 kj16 a1 l2 t32112 t32115 t32126 true a0_0 a0_1 a0_2 l0_3)))))) else (some false)))) else (some false)) = some r := H
            have A45 := Aside0.mk A450
            clear A450
            by_cases c46 : t32137 = true
            · subst c46
              have H1 : ((laws_toIntS.f kj16 l2).bind fun t32138 => ((laws_eqIntS.f kj16 t32123 t32138).bind fun t32141 => (if t32141 = true then ((laws_markBoard.f kj16 t32116 t32117 t32118 t32119 1).bind fun bt32142 => ((laws_markIntS.f kj16 t32123 bt32142.1).bind fun bt32144 => (if bt32144.1 < 0 then (laws_FnExactPathOfThrows.j1 kj16 a1 l2 t32112 t32115 t32126 true a0_0 a0_1 a0_2 l0_3) else ((laws_eqIntS.f kj16 t32126 t32112).bind fun t32146 => (if t32146 = true then (laws_FnExactPathOfThrows.j1 kj16 a1 l2 t32112 t32115 t32126 (t32129 != t32115) a0_0 a0_1 a0_2 l0_3) else (laws_FnExactPathOfThrows.j1 kj16 a1 l2 t32112 t32115 t32126 true a0_0 a0_1 a0_2 l0_3)))))) else (some false)))) = some r := by rw [if_pos rfl] at H; exact H
              clear H
              have H := H1
              clear H1
              replace H := Option.bind_eq_some_iff.mp H
              obtain ⟨t32138, A470, H⟩ := H
              replace H : ((laws_eqIntS.f kj16 t32123 t32138).bind fun t32141 => (if t32141 = true then ((laws_markBoard.f kj16 t32116 t32117 t32118 t32119 1).bind fun bt32142 => ((laws_markIntS.f kj16 t32123 bt32142.1).bind fun bt32144 => (if bt32144.1 < 0 then (laws_FnExactPathOfThrows.j1 kj16 a1 l2 t32112 t32115 t32126 true a0_0 a0_1 a0_2 l0_3) else ((laws_eqIntS.f kj16 t32126 t32112).bind fun t32146 => (if t32146 = true then (laws_FnExactPathOfThrows.j1 kj16 a1 l2 t32112 t32115 t32126 (t32129 != t32115) a0_0 a0_1 a0_2 l0_3) else (laws_FnExactPathOfThrows.j1 kj16 a1 l2 t32112 t32115 t32126 true a0_0 a0_1 a0_2 l0_3)))))) else (some false))) = some r := H
              have A47 := Aside0.mk A470
              clear A470
              replace H := Option.bind_eq_some_iff.mp H
              obtain ⟨t32141, A480, H⟩ := H
              replace H : (if t32141 = true then ((laws_markBoard.f kj16 t32116 t32117 t32118 t32119 1).bind fun bt32142 => ((laws_markIntS.f kj16 t32123 bt32142.1).bind fun bt32144 => (if bt32144.1 < 0 then (laws_FnExactPathOfThrows.j1 kj16 a1 l2 t32112 t32115 t32126 true a0_0 a0_1 a0_2 l0_3) else ((laws_eqIntS.f kj16 t32126 t32112).bind fun t32146 => (if t32146 = true then (laws_FnExactPathOfThrows.j1 kj16 a1 l2 t32112 t32115 t32126 (t32129 != t32115) a0_0 a0_1 a0_2 l0_3) else (laws_FnExactPathOfThrows.j1 kj16 a1 l2 t32112 t32115 t32126 true a0_0 a0_1 a0_2 l0_3)))))) else (some false)) = some r := H
              have A48 := Aside0.mk A480
              clear A480
              by_cases c49 : t32141 = true
              · subst c49
                have H1 : ((laws_markBoard.f kj16 t32116 t32117 t32118 t32119 1).bind fun bt32142 => ((laws_markIntS.f kj16 t32123 bt32142.1).bind fun bt32144 => (if bt32144.1 < 0 then (laws_FnExactPathOfThrows.j1 kj16 a1 l2 t32112 t32115 t32126 true a0_0 a0_1 a0_2 l0_3) else ((laws_eqIntS.f kj16 t32126 t32112).bind fun t32146 => (if t32146 = true then (laws_FnExactPathOfThrows.j1 kj16 a1 l2 t32112 t32115 t32126 (t32129 != t32115) a0_0 a0_1 a0_2 l0_3) else (laws_FnExactPathOfThrows.j1 kj16 a1 l2 t32112 t32115 t32126 true a0_0 a0_1 a0_2 l0_3)))))) = some r := by rw [if_pos rfl] at H; exact H
                clear H
                have H := H1
                clear H1
                replace H := Option.bind_eq_some_iff.mp H
                obtain ⟨⟨t32142, t32143⟩, A500, H⟩ := H
                replace H : ((laws_markIntS.f kj16 t32123 t32142).bind fun bt32144 => (if bt32144.1 < 0 then (laws_FnExactPathOfThrows.j1 kj16 a1 l2 t32112 t32115 t32126 true a0_0 a0_1 a0_2 l0_3) else ((laws_eqIntS.f kj16 t32126 t32112).bind fun t32146 => (if t32146 = true then (laws_FnExactPathOfThrows.j1 kj16 a1 l2 t32112 t32115 t32126 (t32129 != t32115) a0_0 a0_1 a0_2 l0_3) else (laws_FnExactPathOfThrows.j1 kj16 a1 l2 t32112 t32115 t32126 true a0_0 a0_1 a0_2 l0_3))))) = some r := H
                have A50 := Aside0.mk A500
                clear A500
                replace H := Option.bind_eq_some_iff.mp H
                obtain ⟨⟨t32144, t32145⟩, A510, H⟩ := H
                replace H : (if t32144 < 0 then (laws_FnExactPathOfThrows.j1 kj16 a1 l2 t32112 t32115 t32126 true a0_0 a0_1 a0_2 l0_3) else ((laws_eqIntS.f kj16 t32126 t32112).bind fun t32146 => (if t32146 = true then (laws_FnExactPathOfThrows.j1 kj16 a1 l2 t32112 t32115 t32126 (t32129 != t32115) a0_0 a0_1 a0_2 l0_3) else (laws_FnExactPathOfThrows.j1 kj16 a1 l2 t32112 t32115 t32126 true a0_0 a0_1 a0_2 l0_3)))) = some r := H
                have A51 := Aside0.mk A510
                clear A510
                have HC52 := Aside0.mk H
                clear H
                try go_wp2
                have n0_ := Aside0.mk (Kd.R_drew HO_8.out)
                have n1_ := Aside0.mk (Kd.R_drew HO_11.out)
                have n2_ := Aside0.mk (Kd.R_drew HO_12.out)
                have n3_ := Aside0.mk (Kd.R_drew HO_32123003.out)
                have n4_ := Aside0.mk (blk_drew BK32101.out)
                have n5_ := Aside0.mk (blk_drew BK32122.out)
                have n6_ := Aside0.mk (below_drew1 HB.out)
                clear HO_8
                clear HO_11
                clear HO_12
                clear HO_32123003
                clear BK32101
                clear BK32122
                clear HB
                have HO_8 := n0_
                have HO_11 := n1_
                have HO_12 := n2_
                have HO_32123003 := n3_
                have BK32101 := n4_
                have BK32122 := n5_
                have HB := n6_
                clear n0_ n1_ n2_ n3_ n4_ n5_ n6_
                refine start_ (n := 5) (S := fun w' => w'.cell? ⟨gb32122, 0, none⟩ = some (.int .i64 t32116) ∧ w'.cell? ⟨gb32122, 1, none⟩ = some (.int .i64 t32117) ∧ w'.cell? ⟨gb32122, 2, none⟩ = some (.int .i64 t32118) ∧ w'.cell? ⟨gb32122, 3, none⟩ = some (.slice Ao32 t32119.length co32) ∧ w'.cell? ⟨gb32101, 0, none⟩ = some (.int .i64 a0_0) ∧ w'.cell? ⟨gb32101, 1, none⟩ = some (.int .i64 a0_1) ∧ w'.cell? ⟨gb32101, 2, none⟩ = some (.int .i64 a0_2) ∧ w'.cell? ⟨gb32101, 3, none⟩ = some (.slice A0_3 l0_3.length c0_3)) (ds := []) #[false, false, false, false, false] (by kernel_rfl) rfl rfl ⟨(blk_cell BK32122.out 0).trans rfl, (blk_cell BK32122.out 1).trans rfl, (blk_cell BK32122.out 2).trans rfl, (blk_cell BK32122.out 3).trans rfl, (blk_cell BK32101.out 0).trans rfl, (blk_cell BK32101.out 1).trans rfl, (blk_cell BK32101.out 2).trans rfl, (blk_cell BK32101.out 3).trans rfl⟩ (fun hHeld => ?_)
                generalize wc.drew = w53 at HO_8 HO_11 HO_12 HO_32123003 BK32101 BK32122 HB hHeld ⊢
                refine take_ (i := 0) (N := some 56) (v := ?_) (a' := ?_) #[true, false, false, false, false] rfl rfl (by kernel_rfl) (fun _ _ _ h => h) (Or.inl ⟨by rfl, ?_⟩) hHeld ?_ ?_
                rotate_left
                · rintro w' ⟨s0, s1, s2, s3, s4, s5, s6, s7⟩
                  go_simp
                  with_reducible rfl
                rotate_left
                · simp only [Act.put, List.setIfInBounds_toArray, List.set_cons_zero, List.set_cons_succ, i64_w, i32_w]
                  rfl
                refine take_ (i := 1) (N := some 57) (v := ?_) (a' := ?_) #[true, true, false, false, false] rfl rfl (by kernel_rfl) (fun _ _ _ h => h) (Or.inl ⟨by rfl, ?_⟩) hHeld ?_ ?_
                rotate_left
                · rintro w' ⟨s0, s1, s2, s3, s4, s5, s6, s7⟩
                  go_simp
                  with_reducible rfl
                rotate_left
                · simp only [Act.put, List.setIfInBounds_toArray, List.set_cons_zero, List.set_cons_succ, i64_w, i32_w]
                  rfl
                refine one_ (i := 2) (N := some 58) #[true, true, true, false, false] rfl rfl (by kernel_rfl) (by decide) (fun K hK => ?_)
                refine goes_ Try.func39 (by kernel_rfl) rfl #[.agg #[.int .i64 a0_0, .int .i64 a0_1, .int .i64 a0_2, .slice A0_3 l0_3.length c0_3]] (by rfl) rfl rfl (by (try simp only [List.map_toArray, List.map_cons, List.map_nil]); first | done | rfl | (simp only [List.length_drop, List.length_take]; rfl)) ?_
                with_reducible refine (laws_toBoard.calls kj16 a0_0 a0_1 a0_2 _ _ l0_3 t32131 t32132 t32133 t32134 _ ?side1 ?side2 A44.out).mono ?_
                (case side1 => repeat (first | exact (Kd.C_below HR0_3.out HB.out) | (with_reducible refine Kd.C_alloc ?_ _) | (with_reducible refine Kd.C_drewN ?_ _) | (with_reducible refine Kd.C_drew ?_)))
                (case side2 => exact HC0_3.out)
                rintro e w54 ⟨v32135, rfl, ho0, hb⟩
                refine ⟨_, rfl, ?_⟩
                have n0_ := Aside0.mk (Kd.R_below (by (with_reducible repeat (first | apply Kd.R_alloc | apply Kd.R_drewN | apply Kd.R_drew)); exact HO_8.out) hb)
                have n1_ := Aside0.mk (Kd.R_below (by (with_reducible repeat (first | apply Kd.R_alloc | apply Kd.R_drewN | apply Kd.R_drew)); exact HO_11.out) hb)
                have n2_ := Aside0.mk (Kd.R_below (by (with_reducible repeat (first | apply Kd.R_alloc | apply Kd.R_drewN | apply Kd.R_drew)); exact HO_12.out) hb)
                have n3_ := Aside0.mk (Kd.R_elder' (by (with_reducible repeat (first | apply Kd.R_alloc | apply Kd.R_drewN | apply Kd.R_drew)); exact HO_32123003.out) (Kd.R_base ho0) hb)
                have n4_ := Aside0.mk (Kd.R_lower (Kd.R_new' ho0 (Kd.R_lt (by (with_reducible repeat (first | apply Kd.R_alloc | apply Kd.R_drewN | apply Kd.R_drew)); exact HO_32123003.out))) (below_size (by repeat (first | (with_reducible first | exact HB.out | apply below_alloc | apply pw_below_drewN | apply below_drew1 | refine below_set ?_ GE32101.out | refine below_set ?_ GE32122.out) | exact HB.out))))
                have n5_ := Aside0.mk (blk_below (g := gb32101) (o := .cells #[.int .i64 a0_0, .int .i64 a0_1, .int .i64 a0_2, .slice A0_3 l0_3.length c0_3] 24 (0, 0)) (by (with_reducible repeat (first | refine blk_drewN ?_ _ | refine blk_drew ?_ | refine blk_alloc ?_ _)); exact BK32101.out) hb)
                have n6_ := Aside0.mk (blk_below (g := gb32122) (o := .cells #[.int .i64 t32116, .int .i64 t32117, .int .i64 t32118, .slice Ao32 t32119.length co32] 32 (0, 0)) (by (with_reducible repeat (first | refine blk_drewN ?_ _ | refine blk_drew ?_ | refine blk_alloc ?_ _)); exact BK32122.out) hb)
                have n7_ := Aside0.mk (below_step (by repeat (first | (with_reducible first | exact HB.out | apply below_alloc | apply pw_below_drewN | apply below_drew1 | refine below_set ?_ GE32101.out | refine below_set ?_ GE32122.out) | exact HB.out)) hb)
                clear HO_8
                clear HO_11
                clear HO_12
                clear HO_32123003
                clear BK32101
                clear BK32122
                clear HB
                have HO_8 := n0_
                have HO_11 := n1_
                have HO_12 := n2_
                have HO_32123003 := n3_
                have HO32136 := n4_
                have BK32101 := n5_
                have BK32122 := n6_
                have HB := n7_
                clear n0_ n1_ n2_ n3_ n4_ n5_ n6_ n7_
                (try clear hb)
                (try clear hb2)
                (try clear hk)
                (try clear hi)
                (try clear ho0)
                obtain ⟨Ao55, co55, eo55⟩ := Kd.R_slice HO32136.out
                (first | subst eo55 | (injection eo55 with f1_ f2_ f3_; have f4_ := f1_.symm; have f5_ := f3_.symm; clear f1_ f2_ f3_; subst f4_; subst f5_))
                refine hK.out _ _ ⟨(blk_cell BK32122.out 0).trans rfl, (blk_cell BK32122.out 1).trans rfl, (blk_cell BK32122.out 2).trans rfl, (blk_cell BK32122.out 3).trans rfl, (blk_cell BK32101.out 0).trans rfl, (blk_cell BK32101.out 1).trans rfl, (blk_cell BK32101.out 2).trans rfl, (blk_cell BK32101.out 3).trans rfl⟩ (fun hHeld => ?_)
                clear hK K
                refine norm_ (a' := ?_) ?_ ?_
                rotate_left
                · show Act.put _ (some 58) _ = _
                  simp only [Act.put, List.setIfInBounds_toArray, List.set_cons_zero, List.set_cons_succ, i64_w, i32_w]
                  rfl
                refine one_ (i := 3) (N := some 59) #[true, true, true, true, false] rfl rfl (by kernel_rfl) (by decide) (fun K hK => ?_)
                refine goes_ Try.func42 (by kernel_rfl) rfl #[.agg #[.int .i64 t32116, .int .i64 t32117, .int .i64 t32118, .slice Ao32 t32119.length co32], .agg #[.int .i64 t32131, .int .i64 t32132, .int .i64 t32133, .slice Ao55 t32134.length co55]] (by rfl) rfl rfl (by (try simp only [List.map_toArray, List.map_cons, List.map_nil]); first | done | rfl | (simp only [List.length_drop, List.length_take]; rfl)) ?_
                with_reducible refine (laws_eqBoard.calls kj16 t32116 t32117 t32118 _ _ t32119 t32131 t32132 t32133 _ _ t32134 true _ ?side1 ?side2 ?side3 ?side4 A45.out).mono ?_
                (case side1 => repeat (first | exact (Kd.R_reads' HO_32123003.out).2.2 | (with_reducible refine Kd.C_alloc ?_ _) | (with_reducible refine Kd.C_drewN ?_ _) | (with_reducible refine Kd.C_drew ?_)))
                (case side2 => exact (Kd.R_reads' HO_32123003.out).2.1)
                (case side3 => repeat (first | exact (Kd.R_reads' HO32136.out).2.2 | (with_reducible refine Kd.C_alloc ?_ _) | (with_reducible refine Kd.C_drewN ?_ _) | (with_reducible refine Kd.C_drew ?_)))
                (case side4 => exact (Kd.R_reads' HO32136.out).2.1)
                rintro e w56 ⟨rfl, hb⟩
                refine ⟨_, rfl, ?_⟩
                have n0_ := Aside0.mk (Kd.R_below (by (with_reducible repeat (first | apply Kd.R_alloc | apply Kd.R_drewN | apply Kd.R_drew)); exact HO_8.out) hb)
                have n1_ := Aside0.mk (Kd.R_below (by (with_reducible repeat (first | apply Kd.R_alloc | apply Kd.R_drewN | apply Kd.R_drew)); exact HO_11.out) hb)
                have n2_ := Aside0.mk (Kd.R_below (by (with_reducible repeat (first | apply Kd.R_alloc | apply Kd.R_drewN | apply Kd.R_drew)); exact HO_12.out) hb)
                have n3_ := Aside0.mk (Kd.R_below (by (with_reducible repeat (first | apply Kd.R_alloc | apply Kd.R_drewN | apply Kd.R_drew)); exact HO_32123003.out) hb)
                have n4_ := Aside0.mk (Kd.R_below (by (with_reducible repeat (first | apply Kd.R_alloc | apply Kd.R_drewN | apply Kd.R_drew)); exact HO32136.out) hb)
                have n5_ := Aside0.mk (blk_below (g := gb32101) (o := .cells #[.int .i64 a0_0, .int .i64 a0_1, .int .i64 a0_2, .slice A0_3 l0_3.length c0_3] 24 (0, 0)) (by (with_reducible repeat (first | refine blk_drewN ?_ _ | refine blk_drew ?_ | refine blk_alloc ?_ _)); exact BK32101.out) hb)
                have n6_ := Aside0.mk (blk_below (g := gb32122) (o := .cells #[.int .i64 t32116, .int .i64 t32117, .int .i64 t32118, .slice Ao32 t32119.length co32] 32 (0, 0)) (by (with_reducible repeat (first | refine blk_drewN ?_ _ | refine blk_drew ?_ | refine blk_alloc ?_ _)); exact BK32122.out) hb)
                have n7_ := Aside0.mk (below_step (by repeat (first | (with_reducible first | exact HB.out | apply below_alloc | apply pw_below_drewN | apply below_drew1 | refine below_set ?_ GE32101.out | refine below_set ?_ GE32122.out) | exact HB.out)) hb)
                clear HO_8
                clear HO_11
                clear HO_12
                clear HO_32123003
                clear HO32136
                clear BK32101
                clear BK32122
                clear HB
                have HO_8 := n0_
                have HO_11 := n1_
                have HO_12 := n2_
                have HO_32123003 := n3_
                have HO32136 := n4_
                have BK32101 := n5_
                have BK32122 := n6_
                have HB := n7_
                clear n0_ n1_ n2_ n3_ n4_ n5_ n6_ n7_
                (try clear hb)
                (try clear hb2)
                (try clear hk)
                (try clear hi)
                refine hK.out _ _ ⟨(blk_cell BK32122.out 0).trans rfl, (blk_cell BK32122.out 1).trans rfl, (blk_cell BK32122.out 2).trans rfl, (blk_cell BK32122.out 3).trans rfl, (blk_cell BK32101.out 0).trans rfl, (blk_cell BK32101.out 1).trans rfl, (blk_cell BK32101.out 2).trans rfl, (blk_cell BK32101.out 3).trans rfl⟩ (fun hHeld => ?_)
                clear hK K
                refine norm_ (a' := ?_) ?_ ?_
                rotate_left
                · show Act.put _ (some 59) _ = _
                  simp only [Act.put, List.setIfInBounds_toArray, List.set_cons_zero, List.set_cons_succ, i64_w, i32_w]
                  rfl
                refine pure_ (i := 4) (N := some 60) (v := ?_) (a' := ?_) #[true, true, true, true, true] rfl rfl (by kernel_rfl) (fun _ _ _ h => h) (Or.inl ⟨by rfl, ?_⟩) ?_ ?_
                rotate_left
                · intro w'
                  go_simp
                  with_reducible rfl
                rotate_left
                · simp only [Act.put, List.setIfInBounds_toArray, List.set_cons_zero, List.set_cons_succ, i64_w, i32_w]
                  rfl
                refine done_ (by kernel_rfl) ?_
                go_upto_region 20 with (first | ((with_reducible refine gate_callee (f := 71) rfl ?_); refine goesL_ (some 63) rfl rfl Try.func71 (by kernel_rfl) rfl #[.slice A2 l2.length c2] rfl (by (try simp only [List.map_toArray, List.map_cons, List.map_nil]); first | done | rfl | (simp only [List.length_drop, List.length_take]; rfl)) ?_; (with_reducible refine (laws_toIntS.calls kj16 _ _ l2 t32138 _ ?side1 ?side2 A47.out).mono ?_); (case side1 => repeat (first | exact (Kd.C_below HR2.out HB.out) | (with_reducible refine Kd.C_alloc ?_ _) | (with_reducible refine Kd.C_drewN ?_ _) | (with_reducible refine Kd.C_drew ?_))); (case side2 => exact HC2.out); rintro e w57 ⟨v32139, rfl, ho0, hb⟩; refine ⟨_, rfl, ?_⟩; have n0_ := Aside0.mk (Kd.R_elder' (by (with_reducible repeat (first | apply Kd.R_alloc | apply Kd.R_drewN | apply Kd.R_drew)); exact HO_8.out) (Kd.R_base ho0) hb); have n1_ := Aside0.mk (Kd.R_elder' (by (with_reducible repeat (first | apply Kd.R_alloc | apply Kd.R_drewN | apply Kd.R_drew)); exact HO_11.out) (Kd.R_base ho0) hb); have n2_ := Aside0.mk (Kd.R_elder' (by (with_reducible repeat (first | apply Kd.R_alloc | apply Kd.R_drewN | apply Kd.R_drew)); exact HO_12.out) (Kd.R_base ho0) hb); have n3_ := Aside0.mk (Kd.R_below (by (with_reducible repeat (first | apply Kd.R_alloc | apply Kd.R_drewN | apply Kd.R_drew)); exact HO_32123003.out) hb); have n4_ := Aside0.mk (Kd.R_below (by (with_reducible repeat (first | apply Kd.R_alloc | apply Kd.R_drewN | apply Kd.R_drew)); exact HO32136.out) hb); have n5_ := Aside0.mk (Kd.R_lower (Kd.R_new' (Kd.R_new' (Kd.R_new' ho0 (Kd.R_lt (by (with_reducible repeat (first | apply Kd.R_alloc | apply Kd.R_drewN | apply Kd.R_drew)); exact HO_8.out))) (Kd.R_lt (by (with_reducible repeat (first | apply Kd.R_alloc | apply Kd.R_drewN | apply Kd.R_drew)); exact HO_11.out))) (Kd.R_lt (by (with_reducible repeat (first | apply Kd.R_alloc | apply Kd.R_drewN | apply Kd.R_drew)); exact HO_12.out))) (below_size (by repeat (first | (with_reducible first | exact HB.out | apply below_alloc | apply pw_below_drewN | apply below_drew1 | refine below_set ?_ GE32101.out | refine below_set ?_ GE32122.out) | exact HB.out)))); have n6_ := Aside0.mk (blk_below (g := gb32101) (o := .cells #[.int .i64 a0_0, .int .i64 a0_1, .int .i64 a0_2, .slice A0_3 l0_3.length c0_3] 24 (0, 0)) (by (with_reducible repeat (first | refine blk_drewN ?_ _ | refine blk_drew ?_ | refine blk_alloc ?_ _)); exact BK32101.out) hb); have n7_ := Aside0.mk (blk_below (g := gb32122) (o := .cells #[.int .i64 t32116, .int .i64 t32117, .int .i64 t32118, .slice Ao32 t32119.length co32] 32 (0, 0)) (by (with_reducible repeat (first | refine blk_drewN ?_ _ | refine blk_drew ?_ | refine blk_alloc ?_ _)); exact BK32122.out) hb); have n8_ := Aside0.mk (below_step (by repeat (first | (with_reducible first | exact HB.out | apply below_alloc | apply pw_below_drewN | apply below_drew1 | refine below_set ?_ GE32101.out | refine below_set ?_ GE32122.out) | exact HB.out)) hb); clear HO_8; clear HO_11; clear HO_12; clear HO_32123003; clear HO32136; clear BK32101; clear BK32122; clear HB; have HO_8 := n0_; have HO_11 := n1_; have HO_12 := n2_; have HO_32123003 := n3_; have HO32136 := n4_; have HO32140 := n5_; have BK32101 := n6_; have BK32122 := n7_; have HB := n8_; clear n0_ n1_ n2_ n3_ n4_ n5_ n6_ n7_ n8_; (try clear hb); (try clear hb2); (try clear hk); (try clear hi); (try clear ho0); obtain ⟨Ao58, co58, eo58⟩ := Kd.R_slice HO32140.out; subst eo58) | ((with_reducible refine gate_callee (f := 67) rfl ?_); refine goesL_ (some 64) rfl rfl Try.func67 (by kernel_rfl) rfl #[.slice Ao35 t32123.length co35, .slice Ao58 t32138.length co58] rfl (by (try simp only [List.map_toArray, List.map_cons, List.map_nil]); first | done | rfl | (simp only [List.length_drop, List.length_take]; rfl)) ?_; (with_reducible refine (laws_eqIntS.calls kj16 _ _ t32123 _ _ t32138 true _ ?side1 ?side2 ?side3 ?side4 A48.out).mono ?_); (case side1 => repeat (first | exact (Kd.R_reads' HO_11.out).2.2 | (with_reducible refine Kd.C_alloc ?_ _) | (with_reducible refine Kd.C_drewN ?_ _) | (with_reducible refine Kd.C_drew ?_))); (case side2 => exact (Kd.R_reads' HO_11.out).2.1); (case side3 => repeat (first | exact (Kd.R_reads' HO32140.out).2.2 | (with_reducible refine Kd.C_alloc ?_ _) | (with_reducible refine Kd.C_drewN ?_ _) | (with_reducible refine Kd.C_drew ?_))); (case side4 => exact (Kd.R_reads' HO32140.out).2.1); rintro e w' ⟨rfl, ⟨nd, rfl⟩⟩; refine ⟨_, rfl, ?_⟩; have hnb59 := NB32122_32101.out; have hnc59 := NB32101_32122.out; have hcz60_0 : w57.cell? ⟨gb32122, 0, none⟩ = some (.int .i64 t32116) := (blk_cell BK32122.out 0).trans rfl; have hcz60_1 : w57.cell? ⟨gb32122, 1, none⟩ = some (.int .i64 t32117) := (blk_cell BK32122.out 1).trans rfl; have hcz60_2 : w57.cell? ⟨gb32122, 2, none⟩ = some (.int .i64 t32118) := (blk_cell BK32122.out 2).trans rfl; have hcz60_3 : w57.cell? ⟨gb32122, 3, none⟩ = some (.slice Ao32 t32119.length co32) := (blk_cell BK32122.out 3).trans rfl; have hfz60_0 := blk_frozen BK32122.out 0; have hfz60_1 := blk_frozen BK32122.out 1; have hfz60_2 := blk_frozen BK32122.out 2; have hfz60_3 := blk_frozen BK32122.out 3) | ((with_reducible refine gate_callee (f := 47) rfl ?_); refine goesL_ (some 68) rfl rfl Try.func47 (by kernel_rfl) rfl #[.agg #[.int .i64 t32116, .int .i64 t32117, .int .i64 t32118, .slice Ao32 t32119.length co32], .int .i64 1] rfl (by (try simp only [List.map_toArray, List.map_cons, List.map_nil]); first | done | rfl | (simp only [List.length_drop, List.length_take]; rfl)) ?_; (with_reducible refine (laws_markBoard.calls kj16 t32116 t32117 t32118 (fun k_ => some k_ = (.slice Ao32 t32119.length co32 : Value).ownBlock) (.slice Ao32 t32119.length co32) t32119 1 t32142 t32143 w _ ?side1 ?side2 A50.out).mono ?_); (case side1 => repeat (first | (with_reducible first | exact HB.out | apply below_alloc | apply pw_below_drewN | apply below_drew1 | refine below_set ?_ GE32101.out | refine below_set ?_ GE32122.out) | exact HB.out)); (case side2 => exact Kd.R_tight rfl HO_32123003.out); rintro e w61 ⟨rfl, hy0, hb, hkp⟩; refine ⟨_, rfl, ?_⟩; have n0_ := Aside0.mk (Kd.R_mono (ok' := fun k_ => some k_ ≠ (.slice Ao35 t32123.length co35 : Value).ownBlock ∧ some k_ ≠ (v32127 : Value).ownBlock ∧ some k_ ≠ (.slice Ao58 t32138.length co58 : Value).ownBlock) (Kd.R_keptB ((Kd.R_apart' HO_8.out (Kd.R_typed HO_32123003.out) (by decide))) hkp (fun k_ hk_ hs_ => (hk_.2) hs_)) (fun k_ hk_ => ⟨hk_.1.1.1.1, hk_.1.1.1.2, hk_.1.1.2⟩)); have n1_ := Aside0.mk (Kd.R_mono (ok' := fun k_ => some k_ ≠ (v32113 : Value).ownBlock ∧ some k_ ≠ (v32127 : Value).ownBlock ∧ some k_ ≠ (.slice Ao58 t32138.length co58 : Value).ownBlock) (Kd.R_keptB ((Kd.R_apart' HO_11.out (Kd.R_typed HO_32123003.out) (by decide))) hkp (fun k_ hk_ hs_ => (hk_.2) hs_)) (fun k_ hk_ => ⟨hk_.1.1.1.1, hk_.1.1.1.2, hk_.1.1.2⟩)); have n2_ := Aside0.mk (Kd.R_mono (ok' := fun k_ => some k_ ≠ (v32113 : Value).ownBlock ∧ some k_ ≠ (.slice Ao35 t32123.length co35 : Value).ownBlock ∧ some k_ ≠ (.slice Ao58 t32138.length co58 : Value).ownBlock) (Kd.R_keptB ((Kd.R_apart' HO_12.out (Kd.R_typed HO_32123003.out) (by decide))) hkp (fun k_ hk_ hs_ => (hk_.2) hs_)) (fun k_ hk_ => ⟨hk_.1.1.1.1, hk_.1.1.1.2, hk_.1.1.2⟩)); have n3_ := Aside0.mk (Kd.R_reok rfl hy0 (fun k_ e_ => HO_32123003.out.1 k_ e_)); have n4_ := Aside0.mk (blk_kept (by (with_reducible repeat (first | refine blk_drewN ?_ _ | refine blk_drew ?_ | refine blk_alloc ?_ _)); exact BK32101.out) hkp (fun hs_ => (fun e_ => (Kd.R_ne HO_32123003.out BK32101.out (by decide)) e_) hs_)); have n5_ := Aside0.mk (blk_kept (by (with_reducible repeat (first | refine blk_drewN ?_ _ | refine blk_drew ?_ | refine blk_alloc ?_ _)); exact BK32122.out) hkp (fun hs_ => (fun e_ => (Kd.R_ne HO_32123003.out BK32122.out (by decide)) e_) hs_)); have n6_ := Aside0.mk (Kd.R_mono (ok' := fun k_ => some k_ ≠ (.slice Ao32 t32119.length co32 : Value).ownBlock) (Kd.R_keptB (HO32136.out) hkp (fun k_ hk_ hs_ => (hk_.2) hs_)) (fun k_ hk_ => hk_.1.2)); have n7_ := Aside0.mk (Kd.R_mono (ok' := fun k_ => some k_ ≠ (v32113 : Value).ownBlock ∧ some k_ ≠ (.slice Ao35 t32123.length co35 : Value).ownBlock ∧ some k_ ≠ (v32127 : Value).ownBlock) (Kd.R_keptB ((Kd.R_apart' HO32140.out (Kd.R_typed HO_32123003.out) (by decide))) hkp (fun k_ hk_ hs_ => (hk_.2) hs_)) (fun k_ hk_ => ⟨hk_.1.1.1.1.2, hk_.1.1.1.2, hk_.1.1.2⟩)); have n8_ := Aside0.mk (hb); clear HO_8; clear HO_11; clear HO_12; clear HO_32123003; clear BK32101; clear BK32122; clear HO32136; clear HO32140; clear HB; have HO_8 := n0_; have HO_11 := n1_; have HO_12 := n2_; have HO_32123003 := n3_; have BK32101 := n4_; have BK32122 := n5_; have HO32136 := n6_; have HO32140 := n7_; have HB := n8_; clear n0_ n1_ n2_ n3_ n4_ n5_ n6_ n7_ n8_; (try clear hb); (try clear hkp); (try clear hy0)) | ((with_reducible refine gate_callee (f := 68) rfl ?_); refine goesL_ (some 71) rfl rfl Try.func68 (by kernel_rfl) rfl #[.slice Ao35 t32123.length co35, .int .i64 t32142] rfl (by (try simp only [List.map_toArray, List.map_cons, List.map_nil]); first | done | rfl | (simp only [List.length_drop, List.length_take]; rfl)) ?_; (with_reducible refine (laws_markIntS.calls kj16 (fun k_ => some k_ = (.slice Ao35 t32123.length co35 : Value).ownBlock) (.slice Ao35 t32123.length co35) t32123 t32142 t32144 t32145 w _ ?side1 ?side2 A51.out).mono ?_); (case side1 => repeat (first | (with_reducible first | exact HB.out | apply below_alloc | apply pw_below_drewN | apply below_drew1 | refine below_set ?_ GE32101.out | refine below_set ?_ GE32122.out) | exact HB.out)); (case side2 => exact Kd.R_tight rfl HO_11.out); rintro e w62 ⟨rfl, hy0, hb, hkp⟩; refine ⟨_, rfl, ?_⟩; have n0_ := Aside0.mk (Kd.R_mono (ok' := fun k_ => some k_ ≠ (.slice Ao35 t32123.length co35 : Value).ownBlock ∧ some k_ ≠ (v32127 : Value).ownBlock ∧ some k_ ≠ (.slice Ao58 t32138.length co58 : Value).ownBlock) (Kd.R_keptB (HO_8.out) hkp (fun k_ hk_ hs_ => (hk_.1) hs_)) (fun k_ hk_ => ⟨hk_.1.1, hk_.1.2.1, hk_.1.2.2⟩)); have n1_ := Aside0.mk (Kd.R_reok rfl hy0 (fun k_ e_ => HO_11.out.1 k_ e_)); have n2_ := Aside0.mk (Kd.R_mono (ok' := fun k_ => some k_ ≠ (v32113 : Value).ownBlock ∧ some k_ ≠ (.slice Ao35 t32123.length co35 : Value).ownBlock ∧ some k_ ≠ (.slice Ao58 t32138.length co58 : Value).ownBlock) (Kd.R_keptB (HO_12.out) hkp (fun k_ hk_ hs_ => (hk_.2.1) hs_)) (fun k_ hk_ => ⟨hk_.1.1, hk_.1.2.1, hk_.1.2.2⟩)); have n3_ := Aside0.mk (Kd.R_mono (ok' := fun k_ => some k_ ≠ (.slice Ao55 t32134.length co55 : Value).ownBlock) (Kd.R_keptB ((Kd.R_apart' HO_32123003.out (Kd.R_typed HO_11.out) (by decide))) hkp (fun k_ hk_ hs_ => (hk_.2) hs_)) (fun k_ hk_ => hk_.1.1.2)); have n4_ := Aside0.mk (blk_kept (by (with_reducible repeat (first | refine blk_drewN ?_ _ | refine blk_drew ?_ | refine blk_alloc ?_ _)); exact BK32101.out) hkp (fun hs_ => (fun e_ => (Kd.R_ne HO_11.out BK32101.out (by decide)) e_) hs_)); have n5_ := Aside0.mk (blk_kept (by (with_reducible repeat (first | refine blk_drewN ?_ _ | refine blk_drew ?_ | refine blk_alloc ?_ _)); exact BK32122.out) hkp (fun hs_ => (fun e_ => (Kd.R_ne HO_11.out BK32122.out (by decide)) e_) hs_)); have n6_ := Aside0.mk (Kd.R_mono (ok' := fun k_ => some k_ ≠ (.slice Ao32 t32119.length co32 : Value).ownBlock) (Kd.R_keptB ((Kd.R_apart' HO32136.out (Kd.R_typed HO_11.out) (by decide))) hkp (fun k_ hk_ hs_ => (hk_.2) hs_)) (fun k_ hk_ => hk_.1.1)); have n7_ := Aside0.mk (Kd.R_mono (ok' := fun k_ => some k_ ≠ (v32113 : Value).ownBlock ∧ some k_ ≠ (.slice Ao35 t32123.length co35 : Value).ownBlock ∧ some k_ ≠ (v32127 : Value).ownBlock) (Kd.R_keptB (HO32140.out) hkp (fun k_ hk_ hs_ => (hk_.2.1) hs_)) (fun k_ hk_ => ⟨hk_.1.1, hk_.1.2.1, hk_.1.2.2⟩)); have n8_ := Aside0.mk (hb); clear HO_8; clear HO_11; clear HO_12; clear HO_32123003; clear BK32101; clear BK32122; clear HO32136; clear HO32140; clear HB; have HO_8 := n0_; have HO_11 := n1_; have HO_12 := n2_; have HO_32123003 := n3_; have BK32101 := n4_; have BK32122 := n5_; have HO32136 := n6_; have HO32140 := n7_; have HB := n8_; clear n0_ n1_ n2_ n3_ n4_ n5_ n6_ n7_ n8_; (try clear hb); (try clear hkp); (try clear hy0)))
                (try simp only [Act.put, List.setIfInBounds_toArray, List.set_cons_zero, List.set_cons_succ])
                go_cut [84] (fun v84 wc => ∃ (kq : Nat) (x84_51 : Bool), v84 = .bool x84_51 ∧ Aside0 (laws_FnExactPathOfThrows.j1 kq a1 l2 t32112 t32115 t32126 x84_51 a0_0 a0_1 a0_2 l0_3 = some r) ∧ Aside0 (kq ≤ kj16) ∧ Aside0 (Kd.R (Kd.int .i64) 3 wc w.heap.size (fun k_ => some k_ ≠ (v32127 : Value).ownBlock) v32113 t32112) ∧ Aside0 (Kd.R (Kd.int .i64) 3 wc w.heap.size (fun k_ => some k_ ≠ (v32113 : Value).ownBlock) v32127 t32126) ∧ Aside0 (Kd.R k27 27 wc w.heap.size (fun _ => True) (.slice Ao32 t32119.length co32) t32143) ∧ Aside0 (wc.heap[gb32101]? = some (.cells #[.int .i64 a0_0, .int .i64 a0_1, .int .i64 a0_2, (.slice A0_3 l0_3.length c0_3)] 24 (0, 0))) ∧ Aside0 (wc.heap[gb32122]? = some (.cells #[.int .i64 t32116, .int .i64 t32117, .int .i64 t32118, (.slice Ao32 t32119.length co32)] 32 (0, 0))) ∧ Aside0 (Below w.heap.size w wc))
                case first =>
                  have H := HC52.out
                  clear HC52
                  by_cases c63 : t32144 < 0
                  · rw [if_pos c63] at H
                    have c63b0 : decide (t32144 < 0) = true := decide_eq_true c63
                    clear c63
                    (first | rw [c63b0] | (simp only [i64_w, i32_w]; rw [c63b0]) | skip)
                    have H' := Aside0.mk H
                    clear H
                    go_wp2
                    go_meet
                    case rel => exact ⟨_, (true), (by first | rfl | (simp; done) | (simp [*]; done)), H', ⟨by have := HJ16.out; first | omega | exact Nat.le_refl _⟩, ⟨by (with_reducible repeat (first | apply Kd.R_alloc | apply Kd.R_drewN | apply Kd.R_drew)); exact Kd.R_mono HO_8.out (fun _ hk => hk.2.1)⟩, ⟨by (with_reducible repeat (first | apply Kd.R_alloc | apply Kd.R_drewN | apply Kd.R_drew)); exact Kd.R_mono HO_12.out (fun _ hk => hk.1)⟩, ⟨by (with_reducible repeat (first | apply Kd.R_alloc | apply Kd.R_drewN | apply Kd.R_drew)); exact Kd.R_mono HO_32123003.out (fun _ hk => trivial)⟩, ⟨by (with_reducible repeat (first | refine blk_drewN ?_ _ | refine blk_drew ?_ | refine blk_alloc ?_ _)); exact BK32101.out⟩, ⟨by (with_reducible repeat (first | refine blk_drewN ?_ _ | refine blk_drew ?_ | refine blk_alloc ?_ _)); exact BK32122.out⟩, ⟨by repeat (first | (with_reducible first | exact HB.out | apply below_alloc | apply pw_below_drewN | apply below_drew1 | refine below_set ?_ GE32101.out | refine below_set ?_ GE32122.out) | exact HB.out)⟩⟩
                  · rw [if_neg c63] at H
                    have c63b0 : decide (t32144 < 0) = false := decide_eq_false c63
                    clear c63
                    (first | rw [c63b0] | (simp only [i64_w, i32_w]; rw [c63b0]) | skip)
                    replace H := Option.bind_eq_some_iff.mp H
                    obtain ⟨t32146, A640, H⟩ := H
                    replace H : (if t32146 = true then (laws_FnExactPathOfThrows.j1 kj16 a1 l2 t32112 t32115 t32126 (t32129 != t32115) a0_0 a0_1 a0_2 l0_3) else (laws_FnExactPathOfThrows.j1 kj16 a1 l2 t32112 t32115 t32126 true a0_0 a0_1 a0_2 l0_3)) = some r := H
                    have A64 := Aside0.mk A640
                    clear A640
                    by_cases c65 : t32146 = true
                    · subst c65
                      have H1 : (laws_FnExactPathOfThrows.j1 kj16 a1 l2 t32112 t32115 t32126 (t32129 != t32115) a0_0 a0_1 a0_2 l0_3) = some r := by rw [if_pos rfl] at H; exact H
                      clear H
                      have H := H1
                      clear H1
                      have H' := Aside0.mk H
                      clear H
                      obtain ⟨Ao66, co66, eo66⟩ := Kd.R_slice HO_12.out
                      subst eo66
                      obtain ⟨Ao67, co67, eo67⟩ := Kd.R_slice HO_8.out
                      subst eo67
                      go_wp2_with (first | (go_at_call 67; (with_reducible refine (laws_eqIntS.calls kj16 _ _ t32126 _ _ t32112 true _ ?side1 ?side2 ?side3 ?side4 A64.out).mono ?_); (case side1 => repeat (first | exact (Kd.R_reads' HO_12.out).2.2 | (with_reducible refine Kd.C_alloc ?_ _) | (with_reducible refine Kd.C_drewN ?_ _) | (with_reducible refine Kd.C_drew ?_))); (case side2 => exact (Kd.R_reads' HO_12.out).2.1); (case side3 => repeat (first | exact (Kd.R_reads' HO_8.out).2.2 | (with_reducible refine Kd.C_alloc ?_ _) | (with_reducible refine Kd.C_drewN ?_ _) | (with_reducible refine Kd.C_drew ?_))); (case side4 => exact (Kd.R_reads' HO_8.out).2.1); rintro e w' ⟨rfl, ⟨nd, rfl⟩⟩))
                      go_meet
                      case rel => exact ⟨_, ((t32129 != t32115)), (by first | rfl | (simp; done) | (simp [*]; done)), H', ⟨by have := HJ16.out; first | omega | exact Nat.le_refl _⟩, ⟨by (with_reducible repeat (first | apply Kd.R_alloc | apply Kd.R_drewN | apply Kd.R_drew)); exact Kd.R_mono HO_8.out (fun _ hk => hk.2.1)⟩, ⟨by (with_reducible repeat (first | apply Kd.R_alloc | apply Kd.R_drewN | apply Kd.R_drew)); exact Kd.R_mono HO_12.out (fun _ hk => hk.1)⟩, ⟨by (with_reducible repeat (first | apply Kd.R_alloc | apply Kd.R_drewN | apply Kd.R_drew)); exact Kd.R_mono HO_32123003.out (fun _ hk => trivial)⟩, ⟨by (with_reducible repeat (first | refine blk_drewN ?_ _ | refine blk_drew ?_ | refine blk_alloc ?_ _)); exact BK32101.out⟩, ⟨by (with_reducible repeat (first | refine blk_drewN ?_ _ | refine blk_drew ?_ | refine blk_alloc ?_ _)); exact BK32122.out⟩, ⟨by repeat (first | (with_reducible first | exact HB.out | apply below_alloc | apply pw_below_drewN | apply below_drew1 | refine below_set ?_ GE32101.out | refine below_set ?_ GE32122.out) | exact HB.out)⟩⟩
                    · replace c65 := Bool.eq_false_iff.mpr c65
                      subst c65
                      have H1 : (laws_FnExactPathOfThrows.j1 kj16 a1 l2 t32112 t32115 t32126 true a0_0 a0_1 a0_2 l0_3) = some r := by rw [if_neg (show ¬ (false = true) by decide)] at H; exact H
                      clear H
                      have H := H1
                      clear H1
                      have H' := Aside0.mk H
                      clear H
                      obtain ⟨Ao68, co68, eo68⟩ := Kd.R_slice HO_12.out
                      subst eo68
                      obtain ⟨Ao69, co69, eo69⟩ := Kd.R_slice HO_8.out
                      subst eo69
                      go_wp2_with (first | (go_at_call 67; (with_reducible refine (laws_eqIntS.calls kj16 _ _ t32126 _ _ t32112 false _ ?side1 ?side2 ?side3 ?side4 A64.out).mono ?_); (case side1 => repeat (first | exact (Kd.R_reads' HO_12.out).2.2 | (with_reducible refine Kd.C_alloc ?_ _) | (with_reducible refine Kd.C_drewN ?_ _) | (with_reducible refine Kd.C_drew ?_))); (case side2 => exact (Kd.R_reads' HO_12.out).2.1); (case side3 => repeat (first | exact (Kd.R_reads' HO_8.out).2.2 | (with_reducible refine Kd.C_alloc ?_ _) | (with_reducible refine Kd.C_drewN ?_ _) | (with_reducible refine Kd.C_drew ?_))); (case side4 => exact (Kd.R_reads' HO_8.out).2.1); rintro e w' ⟨rfl, ⟨nd, rfl⟩⟩))
                      go_meet
                      case rel => exact ⟨_, (true), (by first | rfl | (simp; done) | (simp [*]; done)), H', ⟨by have := HJ16.out; first | omega | exact Nat.le_refl _⟩, ⟨by (with_reducible repeat (first | apply Kd.R_alloc | apply Kd.R_drewN | apply Kd.R_drew)); exact Kd.R_mono HO_8.out (fun _ hk => hk.2.1)⟩, ⟨by (with_reducible repeat (first | apply Kd.R_alloc | apply Kd.R_drewN | apply Kd.R_drew)); exact Kd.R_mono HO_12.out (fun _ hk => hk.1)⟩, ⟨by (with_reducible repeat (first | apply Kd.R_alloc | apply Kd.R_drewN | apply Kd.R_drew)); exact Kd.R_mono HO_32123003.out (fun _ hk => trivial)⟩, ⟨by (with_reducible repeat (first | refine blk_drewN ?_ _ | refine blk_drew ?_ | refine blk_alloc ?_ _)); exact BK32101.out⟩, ⟨by (with_reducible repeat (first | refine blk_drewN ?_ _ | refine blk_drew ?_ | refine blk_alloc ?_ _)); exact BK32122.out⟩, ⟨by repeat (first | (with_reducible first | exact HB.out | apply below_alloc | apply pw_below_drewN | apply below_drew1 | refine below_set ?_ GE32101.out | refine below_set ?_ GE32122.out) | exact HB.out)⟩⟩
                case rest =>
                  clear HC52
                  try clear c1
                  try clear c2
                  try clear p2
                  try clear c3
                  try clear c4
                  try clear c4b0
                  try clear c4b1
                  try clear c5
                  try clear c6
                  try clear c7
                  try clear c7b0
                  try clear c8
                  try clear c16
                  try clear c30
                  try clear c37
                  try clear c38
                  try clear c39
                  try clear c42
                  try clear c43
                  try clear c46
                  try clear c47
                  try clear c49
                  try clear c59
                  try clear c63
                  try clear c63b0
                  try clear c65
                  try clear c67
                  try clear c68
                  try clear hcz19_0
                  try clear hcz19_1
                  try clear hcz19_2
                  try clear hcz19_3
                  try clear hcz21_0
                  try clear hcz21_1
                  try clear hcz21_2
                  try clear hcz21_3
                  try clear hcz27_0
                  try clear hcz27_1
                  try clear hcz27_2
                  try clear hcz27_3
                  try clear hcz31_0
                  try clear hcz31_1
                  try clear hcz31_2
                  try clear hcz31_3
                  try clear hcz34_0
                  try clear hcz34_1
                  try clear hcz34_2
                  try clear hcz34_3
                  try clear hcz60_0
                  try clear hcz60_1
                  try clear hcz60_2
                  try clear hcz60_3
                  try clear hcz9_0
                  try clear hcz9_1
                  try clear hcz9_2
                  try clear hcz9_3
                  try clear hfz19_0
                  try clear hfz19_1
                  try clear hfz19_2
                  try clear hfz19_3
                  try clear hfz21_0
                  try clear hfz21_1
                  try clear hfz21_2
                  try clear hfz21_3
                  try clear hfz27_0
                  try clear hfz27_1
                  try clear hfz27_2
                  try clear hfz27_3
                  try clear hfz31_0
                  try clear hfz31_1
                  try clear hfz31_2
                  try clear hfz31_3
                  try clear hfz34_0
                  try clear hfz34_1
                  try clear hfz34_2
                  try clear hfz34_3
                  try clear hfz60_0
                  try clear hfz60_1
                  try clear hfz60_2
                  try clear hfz60_3
                  try clear hfz9_0
                  try clear hfz9_1
                  try clear hfz9_2
                  try clear hfz9_3
                  try clear p2
                  obtain ⟨kq, x84_51, rfl, HA, HJ51, HO_8, HO_12, HO_32123003, BK32101, BK32122, HB⟩ := hcut
                  have hl32123003_51 := (Kd.R_reads' HO_32123003.out).1
                  rw [hl32123003_51] at HO_32123003
                  (try simp only [hl32123003_51])
                  (try simp only [hl32123003_51] at BK32101)
                  (try simp only [hl32123003_51] at BK32122)
                  (try simp only [hl32123003_51] at HO_8)
                  (try simp only [hl32123003_51] at HO_12)
                  cases kq with
                  | zero => exact absurd HA.out (by simp [laws_FnExactPathOfThrows.j1])
                  | succ kj51 =>
                    have H := HA.out
                    clear HA
                    simp only [laws_FnExactPathOfThrows.j1] at H
                    by_cases c70 : x84_51 = true
                    · subst c70
                      have H1 : (some false) = some r := by rw [if_pos rfl] at H; exact H
                      clear H
                      have H := H1
                      clear H1
                      obtain rfl := Option.some.inj H
                      go_wp2
                      go_ret
                      exact ⟨by first | rfl | (simp [errW_none, errW_some] <;> rfl) | (simp [*, errW_none, errW_some] <;> rfl), by repeat (first | (with_reducible first | exact HB.out | apply below_alloc | apply pw_below_drewN | apply below_drew1 | refine below_set ?_ GE32101.out | refine below_set ?_ GE32122.out) | exact HB.out)⟩
                    · replace c70 := Bool.eq_false_iff.mpr c70
                      subst c70
                      have H1 : ((laws_markIntS.f kj51 t32126 1).bind fun bt32147 => ((laws_heldIntS.f kj51 bt32147.2 1).bind fun t32149 => (if t32149 < 0 then (some false) else (if t32149 = bt32147.1 then ((laws_toBoard.f kj51 a0_0 a0_1 a0_2 l0_3).bind fun bt32150 => ((laws_toIntS.f kj51 l2).bind fun t32156 => ((impl_PathOfThrows.f kj51 bt32150.1 bt32150.2.1 bt32150.2.2.1 bt32150.2.2.2 a1 t32156).bind fun bt32159 => ((laws_eqIntS.f kj51 bt32159.1 t32112).bind fun t32163 => (if t32163 = true then (laws_FnExactPathOfThrows.j2 kj51 bt32147.2 bt32147.1 (bt32159.2 != t32115)) else (laws_FnExactPathOfThrows.j2 kj51 bt32147.2 bt32147.1 true)))))) else (some false))))) = some r := by rw [if_neg (show ¬ (false = true) by decide)] at H; exact H
                      clear H
                      have H := H1
                      clear H1
                      replace H := Option.bind_eq_some_iff.mp H
                      obtain ⟨⟨t32147, t32148⟩, A710, H⟩ := H
                      replace H : ((laws_heldIntS.f kj51 t32148 1).bind fun t32149 => (if t32149 < 0 then (some false) else (if t32149 = t32147 then ((laws_toBoard.f kj51 a0_0 a0_1 a0_2 l0_3).bind fun bt32150 => ((laws_toIntS.f kj51 l2).bind fun t32156 => ((impl_PathOfThrows.f kj51 bt32150.1 bt32150.2.1 bt32150.2.2.1 bt32150.2.2.2 a1 t32156).bind fun bt32159 => ((laws_eqIntS.f kj51 bt32159.1 t32112).bind fun t32163 => (if t32163 = true then (laws_FnExactPathOfThrows.j2 kj51 t32148 t32147 (bt32159.2 != t32115)) else (laws_FnExactPathOfThrows.j2 kj51 t32148 t32147 true)))))) else (some false)))) = some r := H
                      have A71 := Aside0.mk A710
                      clear A710
                      replace H := Option.bind_eq_some_iff.mp H
                      obtain ⟨t32149, A720, H⟩ := H
                      replace H : (if t32149 < 0 then (some false) else (if t32149 = t32147 then ((laws_toBoard.f kj51 a0_0 a0_1 a0_2 l0_3).bind fun bt32150 => ((laws_toIntS.f kj51 l2).bind fun t32156 => ((impl_PathOfThrows.f kj51 bt32150.1 bt32150.2.1 bt32150.2.2.1 bt32150.2.2.2 a1 t32156).bind fun bt32159 => ((laws_eqIntS.f kj51 bt32159.1 t32112).bind fun t32163 => (if t32163 = true then (laws_FnExactPathOfThrows.j2 kj51 t32148 t32147 (bt32159.2 != t32115)) else (laws_FnExactPathOfThrows.j2 kj51 t32148 t32147 true)))))) else (some false))) = some r := H
                      have A72 := Aside0.mk A720
                      clear A720
                      by_cases c73 : t32149 < 0
                      · rw [if_pos c73] at H
                        have c73b0 : decide (t32149 < 0) = true := decide_eq_true c73
                        clear c73
                        obtain rfl := Option.some.inj H
                        obtain ⟨Ao74, co74, eo74⟩ := Kd.R_slice HO_12.out
                        subst eo74
                        go_wp2_with (first | ((with_reducible refine gate_callee (f := 68) rfl ?_); refine goesL_ (some 87) rfl rfl Try.func68 (by kernel_rfl) rfl #[.slice Ao74 t32126.length co74, .int .i64 1] rfl (by (try simp only [List.map_toArray, List.map_cons, List.map_nil]); first | done | rfl | (simp only [List.length_drop, List.length_take]; rfl)) ?_; (with_reducible refine (laws_markIntS.calls kj51 (fun k_ => some k_ = (.slice Ao74 t32126.length co74 : Value).ownBlock) (.slice Ao74 t32126.length co74) t32126 1 t32147 t32148 w _ ?side1 ?side2 A71.out).mono ?_); (case side1 => repeat (first | (with_reducible first | exact HB.out | apply below_alloc | apply pw_below_drewN | apply below_drew1 | refine below_set ?_ GE32101.out | refine below_set ?_ GE32122.out) | exact HB.out)); (case side2 => exact Kd.R_tight rfl HO_12.out); rintro e w75 ⟨rfl, hy0, hb, hkp⟩; refine ⟨_, rfl, ?_⟩; have n0_ := Aside0.mk (Kd.R_mono (ok' := fun k_ => some k_ ≠ (.slice Ao74 t32126.length co74 : Value).ownBlock) (Kd.R_keptB (HO_8.out) hkp (fun k_ hk_ hs_ => (hk_) hs_)) (fun k_ hk_ => hk_.1)); have n1_ := Aside0.mk (Kd.R_reok rfl hy0 (fun k_ e_ => HO_12.out.1 k_ e_)); have n2_ := Aside0.mk (Kd.R_mono (ok' := fun k_ => True) (Kd.R_keptB ((Kd.R_apart' HO_32123003.out (Kd.R_typed HO_12.out) (by decide))) hkp (fun k_ hk_ hs_ => (hk_.2) hs_)) (fun k_ hk_ => trivial)); have n3_ := Aside0.mk (blk_kept (by (with_reducible repeat (first | refine blk_drewN ?_ _ | refine blk_drew ?_ | refine blk_alloc ?_ _)); exact BK32101.out) hkp (fun hs_ => (fun e_ => (Kd.R_ne HO_12.out BK32101.out (by decide)) e_) hs_)); have n4_ := Aside0.mk (blk_kept (by (with_reducible repeat (first | refine blk_drewN ?_ _ | refine blk_drew ?_ | refine blk_alloc ?_ _)); exact BK32122.out) hkp (fun hs_ => (fun e_ => (Kd.R_ne HO_12.out BK32122.out (by decide)) e_) hs_)); have n5_ := Aside0.mk (hb); clear HO_8; clear HO_12; clear HO_32123003; clear BK32101; clear BK32122; clear HB; have HO_8 := n0_; have HO_12 := n1_; have HO_32123003 := n2_; have BK32101 := n3_; have BK32122 := n4_; have HB := n5_; clear n0_ n1_ n2_ n3_ n4_ n5_; (try clear hb); (try clear hkp); (try clear hy0)) | ((with_reducible refine gate_callee (f := 69) rfl ?_); refine goesL_ (some 90) rfl rfl Try.func69 (by kernel_rfl) rfl #[.slice Ao74 t32148.length co74, .int .i64 1] rfl (by (try simp only [List.map_toArray, List.map_cons, List.map_nil]); first | done | (rw [show t32148.length = t32126.length from (Kd.R_reads' HO_12.out).1.symm] <;> rfl) | rfl | (simp only [List.length_drop, List.length_take]; rfl)) ?_; (with_reducible refine (laws_heldIntS.calls kj51 _ _ t32148 1 t32149 _ ?side1 ?side2 A72.out).mono ?_); (case side1 => repeat (first | exact (Kd.R_reads' HO_12.out).2.2 | (with_reducible refine Kd.C_alloc ?_ _) | (with_reducible refine Kd.C_drewN ?_ _) | (with_reducible refine Kd.C_drew ?_))); (case side2 => rw [show t32148.length = t32126.length from (Kd.R_reads' HO_12.out).1.symm]; exact (Kd.R_reads' HO_12.out).2.1); rintro e w' ⟨rfl, ⟨nd, rfl⟩⟩; refine ⟨_, rfl, ?_⟩))
                        go_ret
                        exact ⟨by first | rfl | (simp [errW_none, errW_some] <;> rfl) | (simp [*, errW_none, errW_some] <;> rfl), by repeat (first | (with_reducible first | exact HB.out | apply below_alloc | apply pw_below_drewN | apply below_drew1 | refine below_set ?_ GE32101.out | refine below_set ?_ GE32122.out) | exact HB.out)⟩
                      · rw [if_neg c73] at H
                        have c73b0 : decide (t32149 < 0) = false := decide_eq_false c73
                        clear c73
                        by_cases c76 : t32149 = t32147
                        · rw [if_pos c76] at H
                          have c76b0 : (t32149 == t32147) = true := beq_iff_eq.mpr c76
                          have c76b1 : (t32149 != t32147) = false := bne_eq_false_iff_eq.mpr c76
                          clear c76
                          replace H := Option.bind_eq_some_iff.mp H
                          obtain ⟨⟨t32150, t32151, t32152, t32153⟩, A770, H⟩ := H
                          replace H : ((laws_toIntS.f kj51 l2).bind fun t32156 => ((impl_PathOfThrows.f kj51 t32150 t32151 t32152 t32153 a1 t32156).bind fun bt32159 => ((laws_eqIntS.f kj51 bt32159.1 t32112).bind fun t32163 => (if t32163 = true then (laws_FnExactPathOfThrows.j2 kj51 t32148 t32147 (bt32159.2 != t32115)) else (laws_FnExactPathOfThrows.j2 kj51 t32148 t32147 true))))) = some r := H
                          have A77 := Aside0.mk A770
                          clear A770
                          replace H := Option.bind_eq_some_iff.mp H
                          obtain ⟨t32156, A780, H⟩ := H
                          replace H : ((impl_PathOfThrows.f kj51 t32150 t32151 t32152 t32153 a1 t32156).bind fun bt32159 => ((laws_eqIntS.f kj51 bt32159.1 t32112).bind fun t32163 => (if t32163 = true then (laws_FnExactPathOfThrows.j2 kj51 t32148 t32147 (bt32159.2 != t32115)) else (laws_FnExactPathOfThrows.j2 kj51 t32148 t32147 true)))) = some r := H
                          have A78 := Aside0.mk A780
                          clear A780
                          replace H := Option.bind_eq_some_iff.mp H
                          obtain ⟨⟨t32159, t32162⟩, A790, H⟩ := H
                          replace H : ((laws_eqIntS.f kj51 t32159 t32112).bind fun t32163 => (if t32163 = true then (laws_FnExactPathOfThrows.j2 kj51 t32148 t32147 (t32162 != t32115)) else (laws_FnExactPathOfThrows.j2 kj51 t32148 t32147 true))) = some r := H
                          have A79 := Aside0.mk A790
                          clear A790
                          have HC80 := Aside0.mk H
                          clear H
                          obtain ⟨Ao81, co81, eo81⟩ := Kd.R_slice HO_12.out
                          subst eo81
                          go_upto_region 31 with (first | ((with_reducible refine gate_callee (f := 68) rfl ?_); refine goesL_ (some 87) rfl rfl Try.func68 (by kernel_rfl) rfl #[.slice Ao81 t32126.length co81, .int .i64 1] rfl (by (try simp only [List.map_toArray, List.map_cons, List.map_nil]); first | done | rfl | (simp only [List.length_drop, List.length_take]; rfl)) ?_; (with_reducible refine (laws_markIntS.calls kj51 (fun k_ => some k_ = (.slice Ao81 t32126.length co81 : Value).ownBlock) (.slice Ao81 t32126.length co81) t32126 1 t32147 t32148 w _ ?side1 ?side2 A71.out).mono ?_); (case side1 => repeat (first | (with_reducible first | exact HB.out | apply below_alloc | apply pw_below_drewN | apply below_drew1 | refine below_set ?_ GE32101.out | refine below_set ?_ GE32122.out) | exact HB.out)); (case side2 => exact Kd.R_tight rfl HO_12.out); rintro e w82 ⟨rfl, hy0, hb, hkp⟩; refine ⟨_, rfl, ?_⟩; have n0_ := Aside0.mk (Kd.R_mono (ok' := fun k_ => some k_ ≠ (.slice Ao81 t32126.length co81 : Value).ownBlock) (Kd.R_keptB (HO_8.out) hkp (fun k_ hk_ hs_ => (hk_) hs_)) (fun k_ hk_ => hk_.1)); have n1_ := Aside0.mk (Kd.R_reok rfl hy0 (fun k_ e_ => HO_12.out.1 k_ e_)); have n2_ := Aside0.mk (Kd.R_mono (ok' := fun k_ => True) (Kd.R_keptB ((Kd.R_apart' HO_32123003.out (Kd.R_typed HO_12.out) (by decide))) hkp (fun k_ hk_ hs_ => (hk_.2) hs_)) (fun k_ hk_ => trivial)); have n3_ := Aside0.mk (blk_kept (by (with_reducible repeat (first | refine blk_drewN ?_ _ | refine blk_drew ?_ | refine blk_alloc ?_ _)); exact BK32101.out) hkp (fun hs_ => (fun e_ => (Kd.R_ne HO_12.out BK32101.out (by decide)) e_) hs_)); have n4_ := Aside0.mk (blk_kept (by (with_reducible repeat (first | refine blk_drewN ?_ _ | refine blk_drew ?_ | refine blk_alloc ?_ _)); exact BK32122.out) hkp (fun hs_ => (fun e_ => (Kd.R_ne HO_12.out BK32122.out (by decide)) e_) hs_)); have n5_ := Aside0.mk (hb); clear HO_8; clear HO_12; clear HO_32123003; clear BK32101; clear BK32122; clear HB; have HO_8 := n0_; have HO_12 := n1_; have HO_32123003 := n2_; have BK32101 := n3_; have BK32122 := n4_; have HB := n5_; clear n0_ n1_ n2_ n3_ n4_ n5_; (try clear hb); (try clear hkp); (try clear hy0)) | ((with_reducible refine gate_callee (f := 69) rfl ?_); refine goesL_ (some 90) rfl rfl Try.func69 (by kernel_rfl) rfl #[.slice Ao81 t32148.length co81, .int .i64 1] rfl (by (try simp only [List.map_toArray, List.map_cons, List.map_nil]); first | done | (rw [show t32148.length = t32126.length from (Kd.R_reads' HO_12.out).1.symm] <;> rfl) | rfl | (simp only [List.length_drop, List.length_take]; rfl)) ?_; (with_reducible refine (laws_heldIntS.calls kj51 _ _ t32148 1 t32149 _ ?side1 ?side2 A72.out).mono ?_); (case side1 => repeat (first | exact (Kd.R_reads' HO_12.out).2.2 | (with_reducible refine Kd.C_alloc ?_ _) | (with_reducible refine Kd.C_drewN ?_ _) | (with_reducible refine Kd.C_drew ?_))); (case side2 => rw [show t32148.length = t32126.length from (Kd.R_reads' HO_12.out).1.symm]; exact (Kd.R_reads' HO_12.out).2.1); rintro e w' ⟨rfl, ⟨nd, rfl⟩⟩; refine ⟨_, rfl, ?_⟩; have hnb83 := NB32101_32122.out; have hnc83 := NB32122_32101.out; have hcz84_0 : w82.cell? ⟨gb32101, 0, none⟩ = some (.int .i64 a0_0) := (blk_cell BK32101.out 0).trans rfl; have hcz84_1 : w82.cell? ⟨gb32101, 1, none⟩ = some (.int .i64 a0_1) := (blk_cell BK32101.out 1).trans rfl; have hcz84_2 : w82.cell? ⟨gb32101, 2, none⟩ = some (.int .i64 a0_2) := (blk_cell BK32101.out 2).trans rfl; have hcz84_3 : w82.cell? ⟨gb32101, 3, none⟩ = some (.slice A0_3 l0_3.length c0_3) := (blk_cell BK32101.out 3).trans rfl; have hfz84_0 := blk_frozen BK32101.out 0; have hfz84_1 := blk_frozen BK32101.out 1; have hfz84_2 := blk_frozen BK32101.out 2; have hfz84_3 := blk_frozen BK32101.out 3) | ((with_reducible refine gate_callee (f := 39) rfl ?_); refine goesL_ (some 98) rfl rfl Try.func39 (by kernel_rfl) rfl #[.agg #[.int .i64 a0_0, .int .i64 a0_1, .int .i64 a0_2, .slice A0_3 l0_3.length c0_3]] rfl (by (try simp only [List.map_toArray, List.map_cons, List.map_nil]); first | done | rfl | (simp only [List.length_drop, List.length_take]; rfl)) ?_; (with_reducible refine (laws_toBoard.calls kj51 a0_0 a0_1 a0_2 _ _ l0_3 t32150 t32151 t32152 t32153 _ ?side1 ?side2 A77.out).mono ?_); (case side1 => repeat (first | exact (Kd.C_below HR0_3.out (by repeat (first | (with_reducible first | exact HB.out | apply below_alloc | apply pw_below_drewN | apply below_drew1 | refine below_set ?_ GE32101.out | refine below_set ?_ GE32122.out) | exact HB.out))) | (with_reducible refine Kd.C_alloc ?_ _) | (with_reducible refine Kd.C_drewN ?_ _) | (with_reducible refine Kd.C_drew ?_))); (case side2 => exact HC0_3.out); rintro e w85 ⟨v32154, rfl, ho0, hb⟩; refine ⟨_, rfl, ?_⟩; have n0_ := Aside0.mk (Kd.R_below (by (with_reducible repeat (first | apply Kd.R_alloc | apply Kd.R_drewN | apply Kd.R_drew)); exact HO_8.out) hb); have n1_ := Aside0.mk (Kd.R_below (by (with_reducible repeat (first | apply Kd.R_alloc | apply Kd.R_drewN | apply Kd.R_drew)); exact HO_12.out) hb); have n2_ := Aside0.mk (Kd.R_elder' (by (with_reducible repeat (first | apply Kd.R_alloc | apply Kd.R_drewN | apply Kd.R_drew)); exact HO_32123003.out) (Kd.R_base ho0) hb); have n3_ := Aside0.mk (Kd.R_lower (Kd.R_new' ho0 (Kd.R_lt (by (with_reducible repeat (first | apply Kd.R_alloc | apply Kd.R_drewN | apply Kd.R_drew)); exact HO_32123003.out))) (below_size (by repeat (first | (with_reducible first | exact HB.out | apply below_alloc | apply pw_below_drewN | apply below_drew1 | refine below_set ?_ GE32101.out | refine below_set ?_ GE32122.out) | exact HB.out)))); have n4_ := Aside0.mk (blk_below (g := gb32101) (o := .cells #[.int .i64 a0_0, .int .i64 a0_1, .int .i64 a0_2, .slice A0_3 l0_3.length c0_3] 24 (0, 0)) (by (with_reducible repeat (first | refine blk_drewN ?_ _ | refine blk_drew ?_ | refine blk_alloc ?_ _)); exact BK32101.out) hb); have n5_ := Aside0.mk (blk_below (g := gb32122) (o := .cells #[.int .i64 t32116, .int .i64 t32117, .int .i64 t32118, .slice Ao32 t32143.length co32] 32 (0, 0)) (by (with_reducible repeat (first | refine blk_drewN ?_ _ | refine blk_drew ?_ | refine blk_alloc ?_ _)); exact BK32122.out) hb); have n6_ := Aside0.mk (below_step (by repeat (first | (with_reducible first | exact HB.out | apply below_alloc | apply pw_below_drewN | apply below_drew1 | refine below_set ?_ GE32101.out | refine below_set ?_ GE32122.out) | exact HB.out)) hb); clear HO_8; clear HO_12; clear HO_32123003; clear BK32101; clear BK32122; clear HB; have HO_8 := n0_; have HO_12 := n1_; have HO_32123003 := n2_; have HO32155 := n3_; have BK32101 := n4_; have BK32122 := n5_; have HB := n6_; clear n0_ n1_ n2_ n3_ n4_ n5_ n6_; (try clear hb); (try clear hb2); (try clear hk); (try clear hi); (try clear ho0)) | ((with_reducible refine gate_callee (f := 71) rfl ?_); refine goesL_ (some 101) rfl rfl Try.func71 (by kernel_rfl) rfl #[.slice A2 l2.length c2] rfl (by (try simp only [List.map_toArray, List.map_cons, List.map_nil]); first | done | rfl | (simp only [List.length_drop, List.length_take]; rfl)) ?_; (with_reducible refine (laws_toIntS.calls kj51 _ _ l2 t32156 _ ?side1 ?side2 A78.out).mono ?_); (case side1 => repeat (first | exact (Kd.C_below HR2.out HB.out) | (with_reducible refine Kd.C_alloc ?_ _) | (with_reducible refine Kd.C_drewN ?_ _) | (with_reducible refine Kd.C_drew ?_))); (case side2 => exact HC2.out); rintro e w86 ⟨v32157, rfl, ho0, hb⟩; refine ⟨_, rfl, ?_⟩; have n0_ := Aside0.mk (Kd.R_elder' (by (with_reducible repeat (first | apply Kd.R_alloc | apply Kd.R_drewN | apply Kd.R_drew)); exact HO_8.out) (Kd.R_base ho0) hb); have n1_ := Aside0.mk (Kd.R_elder' (by (with_reducible repeat (first | apply Kd.R_alloc | apply Kd.R_drewN | apply Kd.R_drew)); exact HO_12.out) (Kd.R_base ho0) hb); have n2_ := Aside0.mk (Kd.R_below (by (with_reducible repeat (first | apply Kd.R_alloc | apply Kd.R_drewN | apply Kd.R_drew)); exact HO_32123003.out) hb); have n3_ := Aside0.mk (Kd.R_below (by (with_reducible repeat (first | apply Kd.R_alloc | apply Kd.R_drewN | apply Kd.R_drew)); exact HO32155.out) hb); have n4_ := Aside0.mk (Kd.R_lower (Kd.R_new' (Kd.R_new' ho0 (Kd.R_lt (by (with_reducible repeat (first | apply Kd.R_alloc | apply Kd.R_drewN | apply Kd.R_drew)); exact HO_8.out))) (Kd.R_lt (by (with_reducible repeat (first | apply Kd.R_alloc | apply Kd.R_drewN | apply Kd.R_drew)); exact HO_12.out))) (below_size (by repeat (first | (with_reducible first | exact HB.out | apply below_alloc | apply pw_below_drewN | apply below_drew1 | refine below_set ?_ GE32101.out | refine below_set ?_ GE32122.out) | exact HB.out)))); have n5_ := Aside0.mk (blk_below (g := gb32101) (o := .cells #[.int .i64 a0_0, .int .i64 a0_1, .int .i64 a0_2, .slice A0_3 l0_3.length c0_3] 24 (0, 0)) (by (with_reducible repeat (first | refine blk_drewN ?_ _ | refine blk_drew ?_ | refine blk_alloc ?_ _)); exact BK32101.out) hb); have n6_ := Aside0.mk (blk_below (g := gb32122) (o := .cells #[.int .i64 t32116, .int .i64 t32117, .int .i64 t32118, .slice Ao32 t32143.length co32] 32 (0, 0)) (by (with_reducible repeat (first | refine blk_drewN ?_ _ | refine blk_drew ?_ | refine blk_alloc ?_ _)); exact BK32122.out) hb); have n7_ := Aside0.mk (below_step (by repeat (first | (with_reducible first | exact HB.out | apply below_alloc | apply pw_below_drewN | apply below_drew1 | refine below_set ?_ GE32101.out | refine below_set ?_ GE32122.out) | exact HB.out)) hb); clear HO_8; clear HO_12; clear HO_32123003; clear HO32155; clear BK32101; clear BK32122; clear HB; have HO_8 := n0_; have HO_12 := n1_; have HO_32123003 := n2_; have HO32155 := n3_; have HO32158 := n4_; have BK32101 := n5_; have BK32122 := n6_; have HB := n7_; clear n0_ n1_ n2_ n3_ n4_ n5_ n6_ n7_; (try clear hb); (try clear hb2); (try clear hk); (try clear hi); (try clear ho0); obtain ⟨Ao87, co87, eo87⟩ := Kd.R_slice HO32155.out; subst eo87; obtain ⟨Ao88, co88, eo88⟩ := Kd.R_slice HO32158.out; subst eo88) | ((with_reducible refine gate_callee (f := 82) rfl ?_); refine goesL_ (some 102) rfl rfl Try.func82 (by kernel_rfl) rfl #[.agg #[.int .i64 t32150, .int .i64 t32151, .int .i64 t32152, .slice Ao87 t32153.length co87], .int .i64 a1, .slice Ao88 t32156.length co88] rfl (by (try simp only [List.map_toArray, List.map_cons, List.map_nil]); first | done | rfl | (simp only [List.length_drop, List.length_take]; rfl)) ?_; (with_reducible refine (impl_PathOfThrows.calls kj51 t32150 t32151 t32152 _ _ t32153 a1 _ _ t32156 t32159 t32162 _ ?side1 ?side2 ?side3 ?side4 A79.out).mono ?_); (case side1 => repeat (first | exact (Kd.R_reads' HO32155.out).2.2 | (with_reducible refine Kd.C_alloc ?_ _) | (with_reducible refine Kd.C_drewN ?_ _) | (with_reducible refine Kd.C_drew ?_))); (case side2 => exact (Kd.R_reads' HO32155.out).2.1); (case side3 => repeat (first | exact (Kd.R_reads' HO32158.out).2.2 | (with_reducible refine Kd.C_alloc ?_ _) | (with_reducible refine Kd.C_drewN ?_ _) | (with_reducible refine Kd.C_drew ?_))); (case side4 => exact (Kd.R_reads' HO32158.out).2.1); rintro e w89 ⟨v32160, rfl, ho0, hb⟩; refine ⟨_, rfl, ?_⟩; have n0_ := Aside0.mk (Kd.R_elder' (by (with_reducible repeat (first | apply Kd.R_alloc | apply Kd.R_drewN | apply Kd.R_drew)); exact HO_8.out) (Kd.R_base ho0) hb); have n1_ := Aside0.mk (Kd.R_elder' (by (with_reducible repeat (first | apply Kd.R_alloc | apply Kd.R_drewN | apply Kd.R_drew)); exact HO_12.out) (Kd.R_base ho0) hb); have n2_ := Aside0.mk (Kd.R_below (by (with_reducible repeat (first | apply Kd.R_alloc | apply Kd.R_drewN | apply Kd.R_drew)); exact HO_32123003.out) hb); have n3_ := Aside0.mk (Kd.R_below (by (with_reducible repeat (first | apply Kd.R_alloc | apply Kd.R_drewN | apply Kd.R_drew)); exact HO32155.out) hb); have n4_ := Aside0.mk (Kd.R_elder' (by (with_reducible repeat (first | apply Kd.R_alloc | apply Kd.R_drewN | apply Kd.R_drew)); exact HO32158.out) (Kd.R_base ho0) hb); have n5_ := Aside0.mk (Kd.R_lower (Kd.R_new' (Kd.R_new' (Kd.R_new' ho0 (Kd.R_lt (by (with_reducible repeat (first | apply Kd.R_alloc | apply Kd.R_drewN | apply Kd.R_drew)); exact HO_8.out))) (Kd.R_lt (by (with_reducible repeat (first | apply Kd.R_alloc | apply Kd.R_drewN | apply Kd.R_drew)); exact HO_12.out))) (Kd.R_lt (by (with_reducible repeat (first | apply Kd.R_alloc | apply Kd.R_drewN | apply Kd.R_drew)); exact HO32158.out))) (below_size (by repeat (first | (with_reducible first | exact HB.out | apply below_alloc | apply pw_below_drewN | apply below_drew1 | refine below_set ?_ GE32101.out | refine below_set ?_ GE32122.out) | exact HB.out)))); have n6_ := Aside0.mk (blk_below (g := gb32101) (o := .cells #[.int .i64 a0_0, .int .i64 a0_1, .int .i64 a0_2, .slice A0_3 l0_3.length c0_3] 24 (0, 0)) (by (with_reducible repeat (first | refine blk_drewN ?_ _ | refine blk_drew ?_ | refine blk_alloc ?_ _)); exact BK32101.out) hb); have n7_ := Aside0.mk (blk_below (g := gb32122) (o := .cells #[.int .i64 t32116, .int .i64 t32117, .int .i64 t32118, .slice Ao32 t32143.length co32] 32 (0, 0)) (by (with_reducible repeat (first | refine blk_drewN ?_ _ | refine blk_drew ?_ | refine blk_alloc ?_ _)); exact BK32122.out) hb); have n8_ := Aside0.mk (below_step (by repeat (first | (with_reducible first | exact HB.out | apply below_alloc | apply pw_below_drewN | apply below_drew1 | refine below_set ?_ GE32101.out | refine below_set ?_ GE32122.out) | exact HB.out)) hb); clear HO_8; clear HO_12; clear HO_32123003; clear HO32155; clear HO32158; clear BK32101; clear BK32122; clear HB; have HO_8 := n0_; have HO_12 := n1_; have HO_32123003 := n2_; have HO32155 := n3_; have HO32158 := n4_; have HO32161 := n5_; have BK32101 := n6_; have BK32122 := n7_; have HB := n8_; clear n0_ n1_ n2_ n3_ n4_ n5_ n6_ n7_ n8_; (try clear hb); (try clear hb2); (try clear hk); (try clear hi); (try clear ho0)))
                          (try simp only [Act.put, List.setIfInBounds_toArray, List.set_cons_zero, List.set_cons_succ])
                          go_cut [113] (fun v113 wc => ∃ (kq : Nat) (x113_79 : Bool), v113 = .bool x113_79 ∧ Aside0 (laws_FnExactPathOfThrows.j2 kq t32148 t32147 x113_79 = some r) ∧ Aside0 (kq ≤ kj51) ∧ Aside0 (Kd.R (Kd.int .i64) 3 wc w.heap.size (fun _ => True) (.slice Ao81 t32126.length co81) t32148) ∧ Aside0 (Kd.R k27 27 wc w.heap.size (fun _ => True) (.slice Ao32 t32143.length co32) t32143) ∧ Aside0 (wc.heap[gb32101]? = some (.cells #[.int .i64 a0_0, .int .i64 a0_1, .int .i64 a0_2, (.slice A0_3 l0_3.length c0_3)] 24 (0, 0))) ∧ Aside0 (wc.heap[gb32122]? = some (.cells #[.int .i64 t32116, .int .i64 t32117, .int .i64 t32118, (.slice Ao32 t32143.length co32)] 32 (0, 0))) ∧ Aside0 (Below w.heap.size w wc))
                          case first =>
                            have H := HC80.out
                            clear HC80
                            replace H := Option.bind_eq_some_iff.mp H
                            obtain ⟨t32163, A900, H⟩ := H
                            replace H : (if t32163 = true then (laws_FnExactPathOfThrows.j2 kj51 t32148 t32147 (t32162 != t32115)) else (laws_FnExactPathOfThrows.j2 kj51 t32148 t32147 true)) = some r := H
                            have A90 := Aside0.mk A900
                            clear A900
                            by_cases c91 : t32163 = true
                            · subst c91
                              have H1 : (laws_FnExactPathOfThrows.j2 kj51 t32148 t32147 (t32162 != t32115)) = some r := by rw [if_pos rfl] at H; exact H
                              clear H
                              have H := H1
                              clear H1
                              have H' := Aside0.mk H
                              clear H
                              obtain ⟨Ao92, co92, eo92⟩ := Kd.R_slice HO32161.out
                              subst eo92
                              obtain ⟨Ao93, co93, eo93⟩ := Kd.R_slice HO_8.out
                              subst eo93
                              go_wp2_with (first | ((with_reducible refine gate_callee (f := 67) rfl ?_); refine goesL_ (some 107) rfl rfl Try.func67 (by kernel_rfl) rfl #[.slice Ao92 t32159.length co92, .slice Ao93 t32112.length co93] rfl (by (try simp only [List.map_toArray, List.map_cons, List.map_nil]); first | done | rfl | (simp only [List.length_drop, List.length_take]; rfl)) ?_; (with_reducible refine (laws_eqIntS.calls kj51 _ _ t32159 _ _ t32112 true _ ?side1 ?side2 ?side3 ?side4 A90.out).mono ?_); (case side1 => repeat (first | exact (Kd.R_reads' HO32161.out).2.2 | (with_reducible refine Kd.C_alloc ?_ _) | (with_reducible refine Kd.C_drewN ?_ _) | (with_reducible refine Kd.C_drew ?_))); (case side2 => exact (Kd.R_reads' HO32161.out).2.1); (case side3 => repeat (first | exact (Kd.R_reads' HO_8.out).2.2 | (with_reducible refine Kd.C_alloc ?_ _) | (with_reducible refine Kd.C_drewN ?_ _) | (with_reducible refine Kd.C_drew ?_))); (case side4 => exact (Kd.R_reads' HO_8.out).2.1); rintro e w' ⟨rfl, ⟨nd, rfl⟩⟩; refine ⟨_, rfl, ?_⟩))
                              go_meet
                              case rel => exact ⟨_, ((t32162 != t32115)), (by first | rfl | (simp; done) | (simp [*]; done)), H', ⟨by have := HJ16.out; have := HJ51.out; first | omega | exact Nat.le_refl _⟩, ⟨by (try simp only [hl32123003_51]); (with_reducible repeat (first | apply Kd.R_alloc | apply Kd.R_drewN | apply Kd.R_drew)); exact Kd.R_mono HO_12.out (fun _ hk => trivial)⟩, ⟨by (try simp only [hl32123003_51]); (with_reducible repeat (first | apply Kd.R_alloc | apply Kd.R_drewN | apply Kd.R_drew)); exact Kd.R_mono HO_32123003.out (fun _ hk => trivial)⟩, ⟨by (try simp only [hl32123003_51]); (with_reducible repeat (first | refine blk_drewN ?_ _ | refine blk_drew ?_ | refine blk_alloc ?_ _)); exact BK32101.out⟩, ⟨by (try simp only [hl32123003_51]); (with_reducible repeat (first | refine blk_drewN ?_ _ | refine blk_drew ?_ | refine blk_alloc ?_ _)); exact BK32122.out⟩, ⟨by repeat (first | (with_reducible first | exact HB.out | apply below_alloc | apply pw_below_drewN | apply below_drew1 | refine below_set ?_ GE32101.out | refine below_set ?_ GE32122.out) | exact HB.out)⟩⟩
                            · replace c91 := Bool.eq_false_iff.mpr c91
                              subst c91
                              have H1 : (laws_FnExactPathOfThrows.j2 kj51 t32148 t32147 true) = some r := by rw [if_neg (show ¬ (false = true) by decide)] at H; exact H
                              clear H
                              have H := H1
                              clear H1
                              have H' := Aside0.mk H
                              clear H
                              obtain ⟨Ao94, co94, eo94⟩ := Kd.R_slice HO32161.out
                              subst eo94
                              obtain ⟨Ao95, co95, eo95⟩ := Kd.R_slice HO_8.out
                              subst eo95
                              go_wp2_with (first | ((with_reducible refine gate_callee (f := 67) rfl ?_); refine goesL_ (some 107) rfl rfl Try.func67 (by kernel_rfl) rfl #[.slice Ao94 t32159.length co94, .slice Ao95 t32112.length co95] rfl (by (try simp only [List.map_toArray, List.map_cons, List.map_nil]); first | done | rfl | (simp only [List.length_drop, List.length_take]; rfl)) ?_; (with_reducible refine (laws_eqIntS.calls kj51 _ _ t32159 _ _ t32112 false _ ?side1 ?side2 ?side3 ?side4 A90.out).mono ?_); (case side1 => repeat (first | exact (Kd.R_reads' HO32161.out).2.2 | (with_reducible refine Kd.C_alloc ?_ _) | (with_reducible refine Kd.C_drewN ?_ _) | (with_reducible refine Kd.C_drew ?_))); (case side2 => exact (Kd.R_reads' HO32161.out).2.1); (case side3 => repeat (first | exact (Kd.R_reads' HO_8.out).2.2 | (with_reducible refine Kd.C_alloc ?_ _) | (with_reducible refine Kd.C_drewN ?_ _) | (with_reducible refine Kd.C_drew ?_))); (case side4 => exact (Kd.R_reads' HO_8.out).2.1); rintro e w' ⟨rfl, ⟨nd, rfl⟩⟩; refine ⟨_, rfl, ?_⟩))
                              go_meet
                              case rel => exact ⟨_, (true), (by first | rfl | (simp; done) | (simp [*]; done)), H', ⟨by have := HJ16.out; have := HJ51.out; first | omega | exact Nat.le_refl _⟩, ⟨by (try simp only [hl32123003_51]); (with_reducible repeat (first | apply Kd.R_alloc | apply Kd.R_drewN | apply Kd.R_drew)); exact Kd.R_mono HO_12.out (fun _ hk => trivial)⟩, ⟨by (try simp only [hl32123003_51]); (with_reducible repeat (first | apply Kd.R_alloc | apply Kd.R_drewN | apply Kd.R_drew)); exact Kd.R_mono HO_32123003.out (fun _ hk => trivial)⟩, ⟨by (try simp only [hl32123003_51]); (with_reducible repeat (first | refine blk_drewN ?_ _ | refine blk_drew ?_ | refine blk_alloc ?_ _)); exact BK32101.out⟩, ⟨by (try simp only [hl32123003_51]); (with_reducible repeat (first | refine blk_drewN ?_ _ | refine blk_drew ?_ | refine blk_alloc ?_ _)); exact BK32122.out⟩, ⟨by repeat (first | (with_reducible first | exact HB.out | apply below_alloc | apply pw_below_drewN | apply below_drew1 | refine below_set ?_ GE32101.out | refine below_set ?_ GE32122.out) | exact HB.out)⟩⟩
                          case rest =>
                            clear HC80
                            try clear c1
                            try clear c2
                            try clear p2
                            try clear c3
                            try clear c4
                            try clear c4b0
                            try clear c4b1
                            try clear c5
                            try clear c6
                            try clear c7
                            try clear c7b0
                            try clear c8
                            try clear c9
                            try clear c16
                            try clear c30
                            try clear c37
                            try clear c38
                            try clear c39
                            try clear c42
                            try clear c43
                            try clear c46
                            try clear c47
                            try clear c49
                            try clear c59
                            try clear c63
                            try clear c63b0
                            try clear c65
                            try clear c67
                            try clear c68
                            try clear c69
                            try clear c70
                            try clear c71
                            try clear c73
                            try clear c73b0
                            try clear c76
                            try clear c76b0
                            try clear c76b1
                            try clear c81
                            try clear c82
                            try clear c83
                            try clear c91
                            try clear hcz19_0
                            try clear hcz19_1
                            try clear hcz19_2
                            try clear hcz19_3
                            try clear hcz21_0
                            try clear hcz21_1
                            try clear hcz21_2
                            try clear hcz21_3
                            try clear hcz27_0
                            try clear hcz27_1
                            try clear hcz27_2
                            try clear hcz27_3
                            try clear hcz31_0
                            try clear hcz31_1
                            try clear hcz31_2
                            try clear hcz31_3
                            try clear hcz34_0
                            try clear hcz34_1
                            try clear hcz34_2
                            try clear hcz34_3
                            try clear hcz60_0
                            try clear hcz60_1
                            try clear hcz60_2
                            try clear hcz60_3
                            try clear hcz84_0
                            try clear hcz84_1
                            try clear hcz84_2
                            try clear hcz84_3
                            try clear hcz9_0
                            try clear hcz9_1
                            try clear hcz9_2
                            try clear hcz9_3
                            try clear hfz19_0
                            try clear hfz19_1
                            try clear hfz19_2
                            try clear hfz19_3
                            try clear hfz21_0
                            try clear hfz21_1
                            try clear hfz21_2
                            try clear hfz21_3
                            try clear hfz27_0
                            try clear hfz27_1
                            try clear hfz27_2
                            try clear hfz27_3
                            try clear hfz31_0
                            try clear hfz31_1
                            try clear hfz31_2
                            try clear hfz31_3
                            try clear hfz34_0
                            try clear hfz34_1
                            try clear hfz34_2
                            try clear hfz34_3
                            try clear hfz60_0
                            try clear hfz60_1
                            try clear hfz60_2
                            try clear hfz60_3
                            try clear hfz84_0
                            try clear hfz84_1
                            try clear hfz84_2
                            try clear hfz84_3
                            try clear hfz9_0
                            try clear hfz9_1
                            try clear hfz9_2
                            try clear hfz9_3
                            try clear p2
                            obtain ⟨kq, x113_79, rfl, HA, HJ79, HO_12, HO_32123003, BK32101, BK32122, HB⟩ := hcut
                            have hl12_79 := (Kd.R_reads' HO_12.out).1
                            rw [hl12_79] at HO_12
                            (try simp only [hl12_79])
                            (try simp only [hl12_79] at BK32101)
                            (try simp only [hl12_79] at BK32122)
                            (try simp only [hl12_79] at HO_32123003)
                            cases kq with
                            | zero => exact absurd HA.out (by simp [laws_FnExactPathOfThrows.j2])
                            | succ kj79 =>
                              have H := HA.out
                              clear HA
                              simp only [laws_FnExactPathOfThrows.j2] at H
                              by_cases c96 : x113_79 = true
                              · subst c96
                                have H1 : (some false) = some r := by rw [if_pos rfl] at H; exact H
                                clear H
                                have H := H1
                                clear H1
                                obtain rfl := Option.some.inj H
                                go_wp2
                                go_ret
                                exact ⟨by first | rfl | (simp [errW_none, errW_some] <;> rfl) | (simp [*, errW_none, errW_some] <;> rfl), by repeat (first | (with_reducible first | exact HB.out | apply below_alloc | apply pw_below_drewN | apply below_drew1 | refine below_set ?_ GE32101.out | refine below_set ?_ GE32122.out) | exact HB.out)⟩
                              · replace c96 := Bool.eq_false_iff.mpr c96
                                subst c96
                                have H1 : ((laws_heldIntS.f kj79 t32148 1).bind fun t32164 => (if t32164 < 0 then (some false) else (if t32164 = t32147 then (some true) else (some false)))) = some r := by rw [if_neg (show ¬ (false = true) by decide)] at H; exact H
                                clear H
                                have H := H1
                                clear H1
                                replace H := Option.bind_eq_some_iff.mp H
                                obtain ⟨t32164, A970, H⟩ := H
                                replace H : (if t32164 < 0 then (some false) else (if t32164 = t32147 then (some true) else (some false))) = some r := H
                                have A97 := Aside0.mk A970
                                clear A970
                                by_cases c98 : t32164 < 0
                                · rw [if_pos c98] at H
                                  have c98b0 : decide (t32164 < 0) = true := decide_eq_true c98
                                  clear c98
                                  obtain rfl := Option.some.inj H
                                  go_wp2_with (first | ((with_reducible refine gate_callee (f := 69) rfl ?_); refine goesL_ (some 116) rfl rfl Try.func69 (by kernel_rfl) rfl #[.slice Ao81 t32148.length co81, .int .i64 1] rfl (by (try simp only [List.map_toArray, List.map_cons, List.map_nil]); first | done | rfl | (simp only [List.length_drop, List.length_take]; rfl)) ?_; (with_reducible refine (laws_heldIntS.calls kj79 _ _ t32148 1 t32164 _ ?side1 ?side2 A97.out).mono ?_); (case side1 => repeat (first | exact (Kd.R_reads' HO_12.out).2.2 | (with_reducible refine Kd.C_alloc ?_ _) | (with_reducible refine Kd.C_drewN ?_ _) | (with_reducible refine Kd.C_drew ?_))); (case side2 => exact (Kd.R_reads' HO_12.out).2.1); rintro e w' ⟨rfl, ⟨nd, rfl⟩⟩; refine ⟨_, rfl, ?_⟩))
                                  go_ret
                                  exact ⟨by first | rfl | (simp [errW_none, errW_some] <;> rfl) | (simp [*, errW_none, errW_some] <;> rfl), by repeat (first | (with_reducible first | exact HB.out | apply below_alloc | apply pw_below_drewN | apply below_drew1 | refine below_set ?_ GE32101.out | refine below_set ?_ GE32122.out) | exact HB.out)⟩
                                · rw [if_neg c98] at H
                                  have c98b0 : decide (t32164 < 0) = false := decide_eq_false c98
                                  clear c98
                                  by_cases c99 : t32164 = t32147
                                  · rw [if_pos c99] at H
                                    have c99b0 : (t32164 == t32147) = true := beq_iff_eq.mpr c99
                                    have c99b1 : (t32164 != t32147) = false := bne_eq_false_iff_eq.mpr c99
                                    clear c99
                                    obtain rfl := Option.some.inj H
                                    go_wp2_with (first | ((with_reducible refine gate_callee (f := 69) rfl ?_); refine goesL_ (some 116) rfl rfl Try.func69 (by kernel_rfl) rfl #[.slice Ao81 t32148.length co81, .int .i64 1] rfl (by (try simp only [List.map_toArray, List.map_cons, List.map_nil]); first | done | rfl | (simp only [List.length_drop, List.length_take]; rfl)) ?_; (with_reducible refine (laws_heldIntS.calls kj79 _ _ t32148 1 t32164 _ ?side1 ?side2 A97.out).mono ?_); (case side1 => repeat (first | exact (Kd.R_reads' HO_12.out).2.2 | (with_reducible refine Kd.C_alloc ?_ _) | (with_reducible refine Kd.C_drewN ?_ _) | (with_reducible refine Kd.C_drew ?_))); (case side2 => exact (Kd.R_reads' HO_12.out).2.1); rintro e w' ⟨rfl, ⟨nd, rfl⟩⟩; refine ⟨_, rfl, ?_⟩))
                                    go_ret
                                    exact ⟨by first | rfl | (simp [errW_none, errW_some] <;> rfl) | (simp [*, errW_none, errW_some] <;> rfl), by repeat (first | (with_reducible first | exact HB.out | apply below_alloc | apply pw_below_drewN | apply below_drew1 | refine below_set ?_ GE32101.out | refine below_set ?_ GE32122.out) | exact HB.out)⟩
                                  · rw [if_neg c99] at H
                                    have c99b0 : (t32164 == t32147) = false := beq_eq_false_iff_ne.mpr c99
                                    have c99b1 : (t32164 != t32147) = true := bne_iff_ne.mpr c99
                                    obtain rfl := Option.some.inj H
                                    go_wp2_with (first | ((with_reducible refine gate_callee (f := 69) rfl ?_); refine goesL_ (some 116) rfl rfl Try.func69 (by kernel_rfl) rfl #[.slice Ao81 t32148.length co81, .int .i64 1] rfl (by (try simp only [List.map_toArray, List.map_cons, List.map_nil]); first | done | rfl | (simp only [List.length_drop, List.length_take]; rfl)) ?_; (with_reducible refine (laws_heldIntS.calls kj79 _ _ t32148 1 t32164 _ ?side1 ?side2 A97.out).mono ?_); (case side1 => repeat (first | exact (Kd.R_reads' HO_12.out).2.2 | (with_reducible refine Kd.C_alloc ?_ _) | (with_reducible refine Kd.C_drewN ?_ _) | (with_reducible refine Kd.C_drew ?_))); (case side2 => exact (Kd.R_reads' HO_12.out).2.1); rintro e w' ⟨rfl, ⟨nd, rfl⟩⟩; refine ⟨_, rfl, ?_⟩))
                                    go_ret
                                    exact ⟨by first | rfl | (simp [errW_none, errW_some] <;> rfl) | (simp [*, errW_none, errW_some] <;> rfl), by repeat (first | (with_reducible first | exact HB.out | apply below_alloc | apply pw_below_drewN | apply below_drew1 | refine below_set ?_ GE32101.out | refine below_set ?_ GE32122.out) | exact HB.out)⟩
                        · rw [if_neg c76] at H
                          have c76b0 : (t32149 == t32147) = false := beq_eq_false_iff_ne.mpr c76
                          have c76b1 : (t32149 != t32147) = true := bne_iff_ne.mpr c76
                          obtain rfl := Option.some.inj H
                          obtain ⟨Ao100, co100, eo100⟩ := Kd.R_slice HO_12.out
                          subst eo100
                          go_wp2_with (first | ((with_reducible refine gate_callee (f := 68) rfl ?_); refine goesL_ (some 87) rfl rfl Try.func68 (by kernel_rfl) rfl #[.slice Ao100 t32126.length co100, .int .i64 1] rfl (by (try simp only [List.map_toArray, List.map_cons, List.map_nil]); first | done | rfl | (simp only [List.length_drop, List.length_take]; rfl)) ?_; (with_reducible refine (laws_markIntS.calls kj51 (fun k_ => some k_ = (.slice Ao100 t32126.length co100 : Value).ownBlock) (.slice Ao100 t32126.length co100) t32126 1 t32147 t32148 w _ ?side1 ?side2 A71.out).mono ?_); (case side1 => repeat (first | (with_reducible first | exact HB.out | apply below_alloc | apply pw_below_drewN | apply below_drew1 | refine below_set ?_ GE32101.out | refine below_set ?_ GE32122.out) | exact HB.out)); (case side2 => exact Kd.R_tight rfl HO_12.out); rintro e w101 ⟨rfl, hy0, hb, hkp⟩; refine ⟨_, rfl, ?_⟩; have n0_ := Aside0.mk (Kd.R_mono (ok' := fun k_ => some k_ ≠ (.slice Ao100 t32126.length co100 : Value).ownBlock) (Kd.R_keptB (HO_8.out) hkp (fun k_ hk_ hs_ => (hk_) hs_)) (fun k_ hk_ => hk_.1)); have n1_ := Aside0.mk (Kd.R_reok rfl hy0 (fun k_ e_ => HO_12.out.1 k_ e_)); have n2_ := Aside0.mk (Kd.R_mono (ok' := fun k_ => True) (Kd.R_keptB ((Kd.R_apart' HO_32123003.out (Kd.R_typed HO_12.out) (by decide))) hkp (fun k_ hk_ hs_ => (hk_.2) hs_)) (fun k_ hk_ => trivial)); have n3_ := Aside0.mk (blk_kept (by (with_reducible repeat (first | refine blk_drewN ?_ _ | refine blk_drew ?_ | refine blk_alloc ?_ _)); exact BK32101.out) hkp (fun hs_ => (fun e_ => (Kd.R_ne HO_12.out BK32101.out (by decide)) e_) hs_)); have n4_ := Aside0.mk (blk_kept (by (with_reducible repeat (first | refine blk_drewN ?_ _ | refine blk_drew ?_ | refine blk_alloc ?_ _)); exact BK32122.out) hkp (fun hs_ => (fun e_ => (Kd.R_ne HO_12.out BK32122.out (by decide)) e_) hs_)); have n5_ := Aside0.mk (hb); clear HO_8; clear HO_12; clear HO_32123003; clear BK32101; clear BK32122; clear HB; have HO_8 := n0_; have HO_12 := n1_; have HO_32123003 := n2_; have BK32101 := n3_; have BK32122 := n4_; have HB := n5_; clear n0_ n1_ n2_ n3_ n4_ n5_; (try clear hb); (try clear hkp); (try clear hy0)) | ((with_reducible refine gate_callee (f := 69) rfl ?_); refine goesL_ (some 90) rfl rfl Try.func69 (by kernel_rfl) rfl #[.slice Ao100 t32148.length co100, .int .i64 1] rfl (by (try simp only [List.map_toArray, List.map_cons, List.map_nil]); first | done | (rw [show t32148.length = t32126.length from (Kd.R_reads' HO_12.out).1.symm] <;> rfl) | rfl | (simp only [List.length_drop, List.length_take]; rfl)) ?_; (with_reducible refine (laws_heldIntS.calls kj51 _ _ t32148 1 t32149 _ ?side1 ?side2 A72.out).mono ?_); (case side1 => repeat (first | exact (Kd.R_reads' HO_12.out).2.2 | (with_reducible refine Kd.C_alloc ?_ _) | (with_reducible refine Kd.C_drewN ?_ _) | (with_reducible refine Kd.C_drew ?_))); (case side2 => rw [show t32148.length = t32126.length from (Kd.R_reads' HO_12.out).1.symm]; exact (Kd.R_reads' HO_12.out).2.1); rintro e w' ⟨rfl, ⟨nd, rfl⟩⟩; refine ⟨_, rfl, ?_⟩))
                          go_ret
                          exact ⟨by first | rfl | (simp [errW_none, errW_some] <;> rfl) | (simp [*, errW_none, errW_some] <;> rfl), by repeat (first | (with_reducible first | exact HB.out | apply below_alloc | apply pw_below_drewN | apply below_drew1 | refine below_set ?_ GE32101.out | refine below_set ?_ GE32122.out) | exact HB.out)⟩
              · replace c49 := Bool.eq_false_iff.mpr c49
                subst c49
                have H1 : (some false) = some r := by rw [if_neg (show ¬ (false = true) by decide)] at H; exact H
                clear H
                have H := H1
                clear H1
                obtain rfl := Option.some.inj H
                try go_wp2
                have n0_ := Aside0.mk (Kd.R_drew HO_8.out)
                have n1_ := Aside0.mk (Kd.R_drew HO_11.out)
                have n2_ := Aside0.mk (Kd.R_drew HO_12.out)
                have n3_ := Aside0.mk (Kd.R_drew HO_32123003.out)
                have n4_ := Aside0.mk (blk_drew BK32101.out)
                have n5_ := Aside0.mk (blk_drew BK32122.out)
                have n6_ := Aside0.mk (below_drew1 HB.out)
                clear HO_8
                clear HO_11
                clear HO_12
                clear HO_32123003
                clear BK32101
                clear BK32122
                clear HB
                have HO_8 := n0_
                have HO_11 := n1_
                have HO_12 := n2_
                have HO_32123003 := n3_
                have BK32101 := n4_
                have BK32122 := n5_
                have HB := n6_
                clear n0_ n1_ n2_ n3_ n4_ n5_ n6_
                refine start_ (n := 5) (S := fun w' => w'.cell? ⟨gb32122, 0, none⟩ = some (.int .i64 t32116) ∧ w'.cell? ⟨gb32122, 1, none⟩ = some (.int .i64 t32117) ∧ w'.cell? ⟨gb32122, 2, none⟩ = some (.int .i64 t32118) ∧ w'.cell? ⟨gb32122, 3, none⟩ = some (.slice Ao32 t32119.length co32) ∧ w'.cell? ⟨gb32101, 0, none⟩ = some (.int .i64 a0_0) ∧ w'.cell? ⟨gb32101, 1, none⟩ = some (.int .i64 a0_1) ∧ w'.cell? ⟨gb32101, 2, none⟩ = some (.int .i64 a0_2) ∧ w'.cell? ⟨gb32101, 3, none⟩ = some (.slice A0_3 l0_3.length c0_3)) (ds := []) #[false, false, false, false, false] (by kernel_rfl) rfl rfl ⟨(blk_cell BK32122.out 0).trans rfl, (blk_cell BK32122.out 1).trans rfl, (blk_cell BK32122.out 2).trans rfl, (blk_cell BK32122.out 3).trans rfl, (blk_cell BK32101.out 0).trans rfl, (blk_cell BK32101.out 1).trans rfl, (blk_cell BK32101.out 2).trans rfl, (blk_cell BK32101.out 3).trans rfl⟩ (fun hHeld => ?_)
                generalize wc.drew = w102 at HO_8 HO_11 HO_12 HO_32123003 BK32101 BK32122 HB hHeld ⊢
                refine take_ (i := 0) (N := some 56) (v := ?_) (a' := ?_) #[true, false, false, false, false] rfl rfl (by kernel_rfl) (fun _ _ _ h => h) (Or.inl ⟨by rfl, ?_⟩) hHeld ?_ ?_
                rotate_left
                · rintro w' ⟨s0, s1, s2, s3, s4, s5, s6, s7⟩
                  go_simp
                  with_reducible rfl
                rotate_left
                · simp only [Act.put, List.setIfInBounds_toArray, List.set_cons_zero, List.set_cons_succ, i64_w, i32_w]
                  rfl
                refine take_ (i := 1) (N := some 57) (v := ?_) (a' := ?_) #[true, true, false, false, false] rfl rfl (by kernel_rfl) (fun _ _ _ h => h) (Or.inl ⟨by rfl, ?_⟩) hHeld ?_ ?_
                rotate_left
                · rintro w' ⟨s0, s1, s2, s3, s4, s5, s6, s7⟩
                  go_simp
                  with_reducible rfl
                rotate_left
                · simp only [Act.put, List.setIfInBounds_toArray, List.set_cons_zero, List.set_cons_succ, i64_w, i32_w]
                  rfl
                refine one_ (i := 2) (N := some 58) #[true, true, true, false, false] rfl rfl (by kernel_rfl) (by decide) (fun K hK => ?_)
                refine goes_ Try.func39 (by kernel_rfl) rfl #[.agg #[.int .i64 a0_0, .int .i64 a0_1, .int .i64 a0_2, .slice A0_3 l0_3.length c0_3]] (by rfl) rfl rfl (by (try simp only [List.map_toArray, List.map_cons, List.map_nil]); first | done | rfl | (simp only [List.length_drop, List.length_take]; rfl)) ?_
                with_reducible refine (laws_toBoard.calls kj16 a0_0 a0_1 a0_2 _ _ l0_3 t32131 t32132 t32133 t32134 _ ?side1 ?side2 A44.out).mono ?_
                (case side1 => repeat (first | exact (Kd.C_below HR0_3.out HB.out) | (with_reducible refine Kd.C_alloc ?_ _) | (with_reducible refine Kd.C_drewN ?_ _) | (with_reducible refine Kd.C_drew ?_)))
                (case side2 => exact HC0_3.out)
                rintro e w103 ⟨v32135, rfl, ho0, hb⟩
                refine ⟨_, rfl, ?_⟩
                have n0_ := Aside0.mk (Kd.R_below (by (with_reducible repeat (first | apply Kd.R_alloc | apply Kd.R_drewN | apply Kd.R_drew)); exact HO_8.out) hb)
                have n1_ := Aside0.mk (Kd.R_below (by (with_reducible repeat (first | apply Kd.R_alloc | apply Kd.R_drewN | apply Kd.R_drew)); exact HO_11.out) hb)
                have n2_ := Aside0.mk (Kd.R_below (by (with_reducible repeat (first | apply Kd.R_alloc | apply Kd.R_drewN | apply Kd.R_drew)); exact HO_12.out) hb)
                have n3_ := Aside0.mk (Kd.R_elder' (by (with_reducible repeat (first | apply Kd.R_alloc | apply Kd.R_drewN | apply Kd.R_drew)); exact HO_32123003.out) (Kd.R_base ho0) hb)
                have n4_ := Aside0.mk (Kd.R_lower (Kd.R_new' ho0 (Kd.R_lt (by (with_reducible repeat (first | apply Kd.R_alloc | apply Kd.R_drewN | apply Kd.R_drew)); exact HO_32123003.out))) (below_size (by repeat (first | (with_reducible first | exact HB.out | apply below_alloc | apply pw_below_drewN | apply below_drew1 | refine below_set ?_ GE32101.out | refine below_set ?_ GE32122.out) | exact HB.out))))
                have n5_ := Aside0.mk (blk_below (g := gb32101) (o := .cells #[.int .i64 a0_0, .int .i64 a0_1, .int .i64 a0_2, .slice A0_3 l0_3.length c0_3] 24 (0, 0)) (by (with_reducible repeat (first | refine blk_drewN ?_ _ | refine blk_drew ?_ | refine blk_alloc ?_ _)); exact BK32101.out) hb)
                have n6_ := Aside0.mk (blk_below (g := gb32122) (o := .cells #[.int .i64 t32116, .int .i64 t32117, .int .i64 t32118, .slice Ao32 t32119.length co32] 32 (0, 0)) (by (with_reducible repeat (first | refine blk_drewN ?_ _ | refine blk_drew ?_ | refine blk_alloc ?_ _)); exact BK32122.out) hb)
                have n7_ := Aside0.mk (below_step (by repeat (first | (with_reducible first | exact HB.out | apply below_alloc | apply pw_below_drewN | apply below_drew1 | refine below_set ?_ GE32101.out | refine below_set ?_ GE32122.out) | exact HB.out)) hb)
                clear HO_8
                clear HO_11
                clear HO_12
                clear HO_32123003
                clear BK32101
                clear BK32122
                clear HB
                have HO_8 := n0_
                have HO_11 := n1_
                have HO_12 := n2_
                have HO_32123003 := n3_
                have HO32136 := n4_
                have BK32101 := n5_
                have BK32122 := n6_
                have HB := n7_
                clear n0_ n1_ n2_ n3_ n4_ n5_ n6_ n7_
                (try clear hb)
                (try clear hb2)
                (try clear hk)
                (try clear hi)
                (try clear ho0)
                obtain ⟨Ao104, co104, eo104⟩ := Kd.R_slice HO32136.out
                (first | subst eo104 | (injection eo104 with f1_ f2_ f3_; have f4_ := f1_.symm; have f5_ := f3_.symm; clear f1_ f2_ f3_; subst f4_; subst f5_))
                refine hK.out _ _ ⟨(blk_cell BK32122.out 0).trans rfl, (blk_cell BK32122.out 1).trans rfl, (blk_cell BK32122.out 2).trans rfl, (blk_cell BK32122.out 3).trans rfl, (blk_cell BK32101.out 0).trans rfl, (blk_cell BK32101.out 1).trans rfl, (blk_cell BK32101.out 2).trans rfl, (blk_cell BK32101.out 3).trans rfl⟩ (fun hHeld => ?_)
                clear hK K
                refine norm_ (a' := ?_) ?_ ?_
                rotate_left
                · show Act.put _ (some 58) _ = _
                  simp only [Act.put, List.setIfInBounds_toArray, List.set_cons_zero, List.set_cons_succ, i64_w, i32_w]
                  rfl
                refine one_ (i := 3) (N := some 59) #[true, true, true, true, false] rfl rfl (by kernel_rfl) (by decide) (fun K hK => ?_)
                refine goes_ Try.func42 (by kernel_rfl) rfl #[.agg #[.int .i64 t32116, .int .i64 t32117, .int .i64 t32118, .slice Ao32 t32119.length co32], .agg #[.int .i64 t32131, .int .i64 t32132, .int .i64 t32133, .slice Ao104 t32134.length co104]] (by rfl) rfl rfl (by (try simp only [List.map_toArray, List.map_cons, List.map_nil]); first | done | rfl | (simp only [List.length_drop, List.length_take]; rfl)) ?_
                with_reducible refine (laws_eqBoard.calls kj16 t32116 t32117 t32118 _ _ t32119 t32131 t32132 t32133 _ _ t32134 true _ ?side1 ?side2 ?side3 ?side4 A45.out).mono ?_
                (case side1 => repeat (first | exact (Kd.R_reads' HO_32123003.out).2.2 | (with_reducible refine Kd.C_alloc ?_ _) | (with_reducible refine Kd.C_drewN ?_ _) | (with_reducible refine Kd.C_drew ?_)))
                (case side2 => exact (Kd.R_reads' HO_32123003.out).2.1)
                (case side3 => repeat (first | exact (Kd.R_reads' HO32136.out).2.2 | (with_reducible refine Kd.C_alloc ?_ _) | (with_reducible refine Kd.C_drewN ?_ _) | (with_reducible refine Kd.C_drew ?_)))
                (case side4 => exact (Kd.R_reads' HO32136.out).2.1)
                rintro e w105 ⟨rfl, hb⟩
                refine ⟨_, rfl, ?_⟩
                have n0_ := Aside0.mk (Kd.R_below (by (with_reducible repeat (first | apply Kd.R_alloc | apply Kd.R_drewN | apply Kd.R_drew)); exact HO_8.out) hb)
                have n1_ := Aside0.mk (Kd.R_below (by (with_reducible repeat (first | apply Kd.R_alloc | apply Kd.R_drewN | apply Kd.R_drew)); exact HO_11.out) hb)
                have n2_ := Aside0.mk (Kd.R_below (by (with_reducible repeat (first | apply Kd.R_alloc | apply Kd.R_drewN | apply Kd.R_drew)); exact HO_12.out) hb)
                have n3_ := Aside0.mk (Kd.R_below (by (with_reducible repeat (first | apply Kd.R_alloc | apply Kd.R_drewN | apply Kd.R_drew)); exact HO_32123003.out) hb)
                have n4_ := Aside0.mk (Kd.R_below (by (with_reducible repeat (first | apply Kd.R_alloc | apply Kd.R_drewN | apply Kd.R_drew)); exact HO32136.out) hb)
                have n5_ := Aside0.mk (blk_below (g := gb32101) (o := .cells #[.int .i64 a0_0, .int .i64 a0_1, .int .i64 a0_2, .slice A0_3 l0_3.length c0_3] 24 (0, 0)) (by (with_reducible repeat (first | refine blk_drewN ?_ _ | refine blk_drew ?_ | refine blk_alloc ?_ _)); exact BK32101.out) hb)
                have n6_ := Aside0.mk (blk_below (g := gb32122) (o := .cells #[.int .i64 t32116, .int .i64 t32117, .int .i64 t32118, .slice Ao32 t32119.length co32] 32 (0, 0)) (by (with_reducible repeat (first | refine blk_drewN ?_ _ | refine blk_drew ?_ | refine blk_alloc ?_ _)); exact BK32122.out) hb)
                have n7_ := Aside0.mk (below_step (by repeat (first | (with_reducible first | exact HB.out | apply below_alloc | apply pw_below_drewN | apply below_drew1 | refine below_set ?_ GE32101.out | refine below_set ?_ GE32122.out) | exact HB.out)) hb)
                clear HO_8
                clear HO_11
                clear HO_12
                clear HO_32123003
                clear HO32136
                clear BK32101
                clear BK32122
                clear HB
                have HO_8 := n0_
                have HO_11 := n1_
                have HO_12 := n2_
                have HO_32123003 := n3_
                have HO32136 := n4_
                have BK32101 := n5_
                have BK32122 := n6_
                have HB := n7_
                clear n0_ n1_ n2_ n3_ n4_ n5_ n6_ n7_
                (try clear hb)
                (try clear hb2)
                (try clear hk)
                (try clear hi)
                refine hK.out _ _ ⟨(blk_cell BK32122.out 0).trans rfl, (blk_cell BK32122.out 1).trans rfl, (blk_cell BK32122.out 2).trans rfl, (blk_cell BK32122.out 3).trans rfl, (blk_cell BK32101.out 0).trans rfl, (blk_cell BK32101.out 1).trans rfl, (blk_cell BK32101.out 2).trans rfl, (blk_cell BK32101.out 3).trans rfl⟩ (fun hHeld => ?_)
                clear hK K
                refine norm_ (a' := ?_) ?_ ?_
                rotate_left
                · show Act.put _ (some 59) _ = _
                  simp only [Act.put, List.setIfInBounds_toArray, List.set_cons_zero, List.set_cons_succ, i64_w, i32_w]
                  rfl
                refine pure_ (i := 4) (N := some 60) (v := ?_) (a' := ?_) #[true, true, true, true, true] rfl rfl (by kernel_rfl) (fun _ _ _ h => h) (Or.inl ⟨by rfl, ?_⟩) ?_ ?_
                rotate_left
                · intro w'
                  go_simp
                  with_reducible rfl
                rotate_left
                · simp only [Act.put, List.setIfInBounds_toArray, List.set_cons_zero, List.set_cons_succ, i64_w, i32_w]
                  rfl
                refine done_ (by kernel_rfl) ?_
                try go_wp2_with (first | ((with_reducible refine gate_callee (f := 71) rfl ?_); refine goesL_ (some 63) rfl rfl Try.func71 (by kernel_rfl) rfl #[.slice A2 l2.length c2] rfl (by (try simp only [List.map_toArray, List.map_cons, List.map_nil]); first | done | rfl | (simp only [List.length_drop, List.length_take]; rfl)) ?_; (with_reducible refine (laws_toIntS.calls kj16 _ _ l2 t32138 _ ?side1 ?side2 A47.out).mono ?_); (case side1 => repeat (first | exact (Kd.C_below HR2.out HB.out) | (with_reducible refine Kd.C_alloc ?_ _) | (with_reducible refine Kd.C_drewN ?_ _) | (with_reducible refine Kd.C_drew ?_))); (case side2 => exact HC2.out); rintro e w106 ⟨v32139, rfl, ho0, hb⟩; refine ⟨_, rfl, ?_⟩; have n0_ := Aside0.mk (Kd.R_elder' (by (with_reducible repeat (first | apply Kd.R_alloc | apply Kd.R_drewN | apply Kd.R_drew)); exact HO_8.out) (Kd.R_base ho0) hb); have n1_ := Aside0.mk (Kd.R_elder' (by (with_reducible repeat (first | apply Kd.R_alloc | apply Kd.R_drewN | apply Kd.R_drew)); exact HO_11.out) (Kd.R_base ho0) hb); have n2_ := Aside0.mk (Kd.R_elder' (by (with_reducible repeat (first | apply Kd.R_alloc | apply Kd.R_drewN | apply Kd.R_drew)); exact HO_12.out) (Kd.R_base ho0) hb); have n3_ := Aside0.mk (Kd.R_below (by (with_reducible repeat (first | apply Kd.R_alloc | apply Kd.R_drewN | apply Kd.R_drew)); exact HO_32123003.out) hb); have n4_ := Aside0.mk (Kd.R_below (by (with_reducible repeat (first | apply Kd.R_alloc | apply Kd.R_drewN | apply Kd.R_drew)); exact HO32136.out) hb); have n5_ := Aside0.mk (Kd.R_lower (Kd.R_new' (Kd.R_new' (Kd.R_new' ho0 (Kd.R_lt (by (with_reducible repeat (first | apply Kd.R_alloc | apply Kd.R_drewN | apply Kd.R_drew)); exact HO_8.out))) (Kd.R_lt (by (with_reducible repeat (first | apply Kd.R_alloc | apply Kd.R_drewN | apply Kd.R_drew)); exact HO_11.out))) (Kd.R_lt (by (with_reducible repeat (first | apply Kd.R_alloc | apply Kd.R_drewN | apply Kd.R_drew)); exact HO_12.out))) (below_size (by repeat (first | (with_reducible first | exact HB.out | apply below_alloc | apply pw_below_drewN | apply below_drew1 | refine below_set ?_ GE32101.out | refine below_set ?_ GE32122.out) | exact HB.out)))); have n6_ := Aside0.mk (blk_below (g := gb32101) (o := .cells #[.int .i64 a0_0, .int .i64 a0_1, .int .i64 a0_2, .slice A0_3 l0_3.length c0_3] 24 (0, 0)) (by (with_reducible repeat (first | refine blk_drewN ?_ _ | refine blk_drew ?_ | refine blk_alloc ?_ _)); exact BK32101.out) hb); have n7_ := Aside0.mk (blk_below (g := gb32122) (o := .cells #[.int .i64 t32116, .int .i64 t32117, .int .i64 t32118, .slice Ao32 t32119.length co32] 32 (0, 0)) (by (with_reducible repeat (first | refine blk_drewN ?_ _ | refine blk_drew ?_ | refine blk_alloc ?_ _)); exact BK32122.out) hb); have n8_ := Aside0.mk (below_step (by repeat (first | (with_reducible first | exact HB.out | apply below_alloc | apply pw_below_drewN | apply below_drew1 | refine below_set ?_ GE32101.out | refine below_set ?_ GE32122.out) | exact HB.out)) hb); clear HO_8; clear HO_11; clear HO_12; clear HO_32123003; clear HO32136; clear BK32101; clear BK32122; clear HB; have HO_8 := n0_; have HO_11 := n1_; have HO_12 := n2_; have HO_32123003 := n3_; have HO32136 := n4_; have HO32140 := n5_; have BK32101 := n6_; have BK32122 := n7_; have HB := n8_; clear n0_ n1_ n2_ n3_ n4_ n5_ n6_ n7_ n8_; (try clear hb); (try clear hb2); (try clear hk); (try clear hi); (try clear ho0); obtain ⟨Ao107, co107, eo107⟩ := Kd.R_slice HO32140.out; subst eo107) | ((with_reducible refine gate_callee (f := 67) rfl ?_); refine goesL_ (some 64) rfl rfl Try.func67 (by kernel_rfl) rfl #[.slice Ao35 t32123.length co35, .slice Ao107 t32138.length co107] rfl (by (try simp only [List.map_toArray, List.map_cons, List.map_nil]); first | done | rfl | (simp only [List.length_drop, List.length_take]; rfl)) ?_; (with_reducible refine (laws_eqIntS.calls kj16 _ _ t32123 _ _ t32138 false _ ?side1 ?side2 ?side3 ?side4 A48.out).mono ?_); (case side1 => repeat (first | exact (Kd.R_reads' HO_11.out).2.2 | (with_reducible refine Kd.C_alloc ?_ _) | (with_reducible refine Kd.C_drewN ?_ _) | (with_reducible refine Kd.C_drew ?_))); (case side2 => exact (Kd.R_reads' HO_11.out).2.1); (case side3 => repeat (first | exact (Kd.R_reads' HO32140.out).2.2 | (with_reducible refine Kd.C_alloc ?_ _) | (with_reducible refine Kd.C_drewN ?_ _) | (with_reducible refine Kd.C_drew ?_))); (case side4 => exact (Kd.R_reads' HO32140.out).2.1); rintro e w' ⟨rfl, ⟨nd, rfl⟩⟩; refine ⟨_, rfl, ?_⟩))
                go_ret
                exact ⟨by first | rfl | (simp [errW_none, errW_some] <;> rfl) | (simp [*, errW_none, errW_some] <;> rfl), by repeat (first | (with_reducible first | exact HB.out | apply below_alloc | apply pw_below_drewN | apply below_drew1 | refine below_set ?_ GE32101.out | refine below_set ?_ GE32122.out) | exact HB.out)⟩
            · replace c46 := Bool.eq_false_iff.mpr c46
              subst c46
              have H1 : (some false) = some r := by rw [if_neg (show ¬ (false = true) by decide)] at H; exact H
              clear H
              have H := H1
              clear H1
              obtain rfl := Option.some.inj H
              try go_wp2
              have n0_ := Aside0.mk (Kd.R_drew HO_8.out)
              have n1_ := Aside0.mk (Kd.R_drew HO_11.out)
              have n2_ := Aside0.mk (Kd.R_drew HO_12.out)
              have n3_ := Aside0.mk (Kd.R_drew HO_32123003.out)
              have n4_ := Aside0.mk (blk_drew BK32101.out)
              have n5_ := Aside0.mk (blk_drew BK32122.out)
              have n6_ := Aside0.mk (below_drew1 HB.out)
              clear HO_8
              clear HO_11
              clear HO_12
              clear HO_32123003
              clear BK32101
              clear BK32122
              clear HB
              have HO_8 := n0_
              have HO_11 := n1_
              have HO_12 := n2_
              have HO_32123003 := n3_
              have BK32101 := n4_
              have BK32122 := n5_
              have HB := n6_
              clear n0_ n1_ n2_ n3_ n4_ n5_ n6_
              refine start_ (n := 5) (S := fun w' => w'.cell? ⟨gb32122, 0, none⟩ = some (.int .i64 t32116) ∧ w'.cell? ⟨gb32122, 1, none⟩ = some (.int .i64 t32117) ∧ w'.cell? ⟨gb32122, 2, none⟩ = some (.int .i64 t32118) ∧ w'.cell? ⟨gb32122, 3, none⟩ = some (.slice Ao32 t32119.length co32) ∧ w'.cell? ⟨gb32101, 0, none⟩ = some (.int .i64 a0_0) ∧ w'.cell? ⟨gb32101, 1, none⟩ = some (.int .i64 a0_1) ∧ w'.cell? ⟨gb32101, 2, none⟩ = some (.int .i64 a0_2) ∧ w'.cell? ⟨gb32101, 3, none⟩ = some (.slice A0_3 l0_3.length c0_3)) (ds := []) #[false, false, false, false, false] (by kernel_rfl) rfl rfl ⟨(blk_cell BK32122.out 0).trans rfl, (blk_cell BK32122.out 1).trans rfl, (blk_cell BK32122.out 2).trans rfl, (blk_cell BK32122.out 3).trans rfl, (blk_cell BK32101.out 0).trans rfl, (blk_cell BK32101.out 1).trans rfl, (blk_cell BK32101.out 2).trans rfl, (blk_cell BK32101.out 3).trans rfl⟩ (fun hHeld => ?_)
              generalize wc.drew = w108 at HO_8 HO_11 HO_12 HO_32123003 BK32101 BK32122 HB hHeld ⊢
              refine take_ (i := 0) (N := some 56) (v := ?_) (a' := ?_) #[true, false, false, false, false] rfl rfl (by kernel_rfl) (fun _ _ _ h => h) (Or.inl ⟨by rfl, ?_⟩) hHeld ?_ ?_
              rotate_left
              · rintro w' ⟨s0, s1, s2, s3, s4, s5, s6, s7⟩
                go_simp
                with_reducible rfl
              rotate_left
              · simp only [Act.put, List.setIfInBounds_toArray, List.set_cons_zero, List.set_cons_succ, i64_w, i32_w]
                rfl
              refine take_ (i := 1) (N := some 57) (v := ?_) (a' := ?_) #[true, true, false, false, false] rfl rfl (by kernel_rfl) (fun _ _ _ h => h) (Or.inl ⟨by rfl, ?_⟩) hHeld ?_ ?_
              rotate_left
              · rintro w' ⟨s0, s1, s2, s3, s4, s5, s6, s7⟩
                go_simp
                with_reducible rfl
              rotate_left
              · simp only [Act.put, List.setIfInBounds_toArray, List.set_cons_zero, List.set_cons_succ, i64_w, i32_w]
                rfl
              refine one_ (i := 2) (N := some 58) #[true, true, true, false, false] rfl rfl (by kernel_rfl) (by decide) (fun K hK => ?_)
              refine goes_ Try.func39 (by kernel_rfl) rfl #[.agg #[.int .i64 a0_0, .int .i64 a0_1, .int .i64 a0_2, .slice A0_3 l0_3.length c0_3]] (by rfl) rfl rfl (by (try simp only [List.map_toArray, List.map_cons, List.map_nil]); first | done | rfl | (simp only [List.length_drop, List.length_take]; rfl)) ?_
              with_reducible refine (laws_toBoard.calls kj16 a0_0 a0_1 a0_2 _ _ l0_3 t32131 t32132 t32133 t32134 _ ?side1 ?side2 A44.out).mono ?_
              (case side1 => repeat (first | exact (Kd.C_below HR0_3.out HB.out) | (with_reducible refine Kd.C_alloc ?_ _) | (with_reducible refine Kd.C_drewN ?_ _) | (with_reducible refine Kd.C_drew ?_)))
              (case side2 => exact HC0_3.out)
              rintro e w109 ⟨v32135, rfl, ho0, hb⟩
              refine ⟨_, rfl, ?_⟩
              have n0_ := Aside0.mk (Kd.R_below (by (with_reducible repeat (first | apply Kd.R_alloc | apply Kd.R_drewN | apply Kd.R_drew)); exact HO_8.out) hb)
              have n1_ := Aside0.mk (Kd.R_below (by (with_reducible repeat (first | apply Kd.R_alloc | apply Kd.R_drewN | apply Kd.R_drew)); exact HO_11.out) hb)
              have n2_ := Aside0.mk (Kd.R_below (by (with_reducible repeat (first | apply Kd.R_alloc | apply Kd.R_drewN | apply Kd.R_drew)); exact HO_12.out) hb)
              have n3_ := Aside0.mk (Kd.R_elder' (by (with_reducible repeat (first | apply Kd.R_alloc | apply Kd.R_drewN | apply Kd.R_drew)); exact HO_32123003.out) (Kd.R_base ho0) hb)
              have n4_ := Aside0.mk (Kd.R_lower (Kd.R_new' ho0 (Kd.R_lt (by (with_reducible repeat (first | apply Kd.R_alloc | apply Kd.R_drewN | apply Kd.R_drew)); exact HO_32123003.out))) (below_size (by repeat (first | (with_reducible first | exact HB.out | apply below_alloc | apply pw_below_drewN | apply below_drew1 | refine below_set ?_ GE32101.out | refine below_set ?_ GE32122.out) | exact HB.out))))
              have n5_ := Aside0.mk (blk_below (g := gb32101) (o := .cells #[.int .i64 a0_0, .int .i64 a0_1, .int .i64 a0_2, .slice A0_3 l0_3.length c0_3] 24 (0, 0)) (by (with_reducible repeat (first | refine blk_drewN ?_ _ | refine blk_drew ?_ | refine blk_alloc ?_ _)); exact BK32101.out) hb)
              have n6_ := Aside0.mk (blk_below (g := gb32122) (o := .cells #[.int .i64 t32116, .int .i64 t32117, .int .i64 t32118, .slice Ao32 t32119.length co32] 32 (0, 0)) (by (with_reducible repeat (first | refine blk_drewN ?_ _ | refine blk_drew ?_ | refine blk_alloc ?_ _)); exact BK32122.out) hb)
              have n7_ := Aside0.mk (below_step (by repeat (first | (with_reducible first | exact HB.out | apply below_alloc | apply pw_below_drewN | apply below_drew1 | refine below_set ?_ GE32101.out | refine below_set ?_ GE32122.out) | exact HB.out)) hb)
              clear HO_8
              clear HO_11
              clear HO_12
              clear HO_32123003
              clear BK32101
              clear BK32122
              clear HB
              have HO_8 := n0_
              have HO_11 := n1_
              have HO_12 := n2_
              have HO_32123003 := n3_
              have HO32136 := n4_
              have BK32101 := n5_
              have BK32122 := n6_
              have HB := n7_
              clear n0_ n1_ n2_ n3_ n4_ n5_ n6_ n7_
              (try clear hb)
              (try clear hb2)
              (try clear hk)
              (try clear hi)
              (try clear ho0)
              obtain ⟨Ao110, co110, eo110⟩ := Kd.R_slice HO32136.out
              (first | subst eo110 | (injection eo110 with f1_ f2_ f3_; have f4_ := f1_.symm; have f5_ := f3_.symm; clear f1_ f2_ f3_; subst f4_; subst f5_))
              refine hK.out _ _ ⟨(blk_cell BK32122.out 0).trans rfl, (blk_cell BK32122.out 1).trans rfl, (blk_cell BK32122.out 2).trans rfl, (blk_cell BK32122.out 3).trans rfl, (blk_cell BK32101.out 0).trans rfl, (blk_cell BK32101.out 1).trans rfl, (blk_cell BK32101.out 2).trans rfl, (blk_cell BK32101.out 3).trans rfl⟩ (fun hHeld => ?_)
              clear hK K
              refine norm_ (a' := ?_) ?_ ?_
              rotate_left
              · show Act.put _ (some 58) _ = _
                simp only [Act.put, List.setIfInBounds_toArray, List.set_cons_zero, List.set_cons_succ, i64_w, i32_w]
                rfl
              refine one_ (i := 3) (N := some 59) #[true, true, true, true, false] rfl rfl (by kernel_rfl) (by decide) (fun K hK => ?_)
              refine goes_ Try.func42 (by kernel_rfl) rfl #[.agg #[.int .i64 t32116, .int .i64 t32117, .int .i64 t32118, .slice Ao32 t32119.length co32], .agg #[.int .i64 t32131, .int .i64 t32132, .int .i64 t32133, .slice Ao110 t32134.length co110]] (by rfl) rfl rfl (by (try simp only [List.map_toArray, List.map_cons, List.map_nil]); first | done | rfl | (simp only [List.length_drop, List.length_take]; rfl)) ?_
              with_reducible refine (laws_eqBoard.calls kj16 t32116 t32117 t32118 _ _ t32119 t32131 t32132 t32133 _ _ t32134 false _ ?side1 ?side2 ?side3 ?side4 A45.out).mono ?_
              (case side1 => repeat (first | exact (Kd.R_reads' HO_32123003.out).2.2 | (with_reducible refine Kd.C_alloc ?_ _) | (with_reducible refine Kd.C_drewN ?_ _) | (with_reducible refine Kd.C_drew ?_)))
              (case side2 => exact (Kd.R_reads' HO_32123003.out).2.1)
              (case side3 => repeat (first | exact (Kd.R_reads' HO32136.out).2.2 | (with_reducible refine Kd.C_alloc ?_ _) | (with_reducible refine Kd.C_drewN ?_ _) | (with_reducible refine Kd.C_drew ?_)))
              (case side4 => exact (Kd.R_reads' HO32136.out).2.1)
              rintro e w111 ⟨rfl, hb⟩
              refine ⟨_, rfl, ?_⟩
              have n0_ := Aside0.mk (Kd.R_below (by (with_reducible repeat (first | apply Kd.R_alloc | apply Kd.R_drewN | apply Kd.R_drew)); exact HO_8.out) hb)
              have n1_ := Aside0.mk (Kd.R_below (by (with_reducible repeat (first | apply Kd.R_alloc | apply Kd.R_drewN | apply Kd.R_drew)); exact HO_11.out) hb)
              have n2_ := Aside0.mk (Kd.R_below (by (with_reducible repeat (first | apply Kd.R_alloc | apply Kd.R_drewN | apply Kd.R_drew)); exact HO_12.out) hb)
              have n3_ := Aside0.mk (Kd.R_below (by (with_reducible repeat (first | apply Kd.R_alloc | apply Kd.R_drewN | apply Kd.R_drew)); exact HO_32123003.out) hb)
              have n4_ := Aside0.mk (Kd.R_below (by (with_reducible repeat (first | apply Kd.R_alloc | apply Kd.R_drewN | apply Kd.R_drew)); exact HO32136.out) hb)
              have n5_ := Aside0.mk (blk_below (g := gb32101) (o := .cells #[.int .i64 a0_0, .int .i64 a0_1, .int .i64 a0_2, .slice A0_3 l0_3.length c0_3] 24 (0, 0)) (by (with_reducible repeat (first | refine blk_drewN ?_ _ | refine blk_drew ?_ | refine blk_alloc ?_ _)); exact BK32101.out) hb)
              have n6_ := Aside0.mk (blk_below (g := gb32122) (o := .cells #[.int .i64 t32116, .int .i64 t32117, .int .i64 t32118, .slice Ao32 t32119.length co32] 32 (0, 0)) (by (with_reducible repeat (first | refine blk_drewN ?_ _ | refine blk_drew ?_ | refine blk_alloc ?_ _)); exact BK32122.out) hb)
              have n7_ := Aside0.mk (below_step (by repeat (first | (with_reducible first | exact HB.out | apply below_alloc | apply pw_below_drewN | apply below_drew1 | refine below_set ?_ GE32101.out | refine below_set ?_ GE32122.out) | exact HB.out)) hb)
              clear HO_8
              clear HO_11
              clear HO_12
              clear HO_32123003
              clear HO32136
              clear BK32101
              clear BK32122
              clear HB
              have HO_8 := n0_
              have HO_11 := n1_
              have HO_12 := n2_
              have HO_32123003 := n3_
              have HO32136 := n4_
              have BK32101 := n5_
              have BK32122 := n6_
              have HB := n7_
              clear n0_ n1_ n2_ n3_ n4_ n5_ n6_ n7_
              (try clear hb)
              (try clear hb2)
              (try clear hk)
              (try clear hi)
              refine hK.out _ _ ⟨(blk_cell BK32122.out 0).trans rfl, (blk_cell BK32122.out 1).trans rfl, (blk_cell BK32122.out 2).trans rfl, (blk_cell BK32122.out 3).trans rfl, (blk_cell BK32101.out 0).trans rfl, (blk_cell BK32101.out 1).trans rfl, (blk_cell BK32101.out 2).trans rfl, (blk_cell BK32101.out 3).trans rfl⟩ (fun hHeld => ?_)
              clear hK K
              refine norm_ (a' := ?_) ?_ ?_
              rotate_left
              · show Act.put _ (some 59) _ = _
                simp only [Act.put, List.setIfInBounds_toArray, List.set_cons_zero, List.set_cons_succ, i64_w, i32_w]
                rfl
              refine pure_ (i := 4) (N := some 60) (v := ?_) (a' := ?_) #[true, true, true, true, true] rfl rfl (by kernel_rfl) (fun _ _ _ h => h) (Or.inl ⟨by rfl, ?_⟩) ?_ ?_
              rotate_left
              · intro w'
                go_simp
                with_reducible rfl
              rotate_left
              · simp only [Act.put, List.setIfInBounds_toArray, List.set_cons_zero, List.set_cons_succ, i64_w, i32_w]
                rfl
              refine done_ (by kernel_rfl) ?_
              try go_wp2
              go_ret
              exact ⟨by first | rfl | (simp [errW_none, errW_some] <;> rfl) | (simp [*, errW_none, errW_some] <;> rfl), by repeat (first | (with_reducible first | exact HB.out | apply below_alloc | apply pw_below_drewN | apply below_drew1 | refine below_set ?_ GE32101.out | refine below_set ?_ GE32122.out) | exact HB.out)⟩

end Go.Proofs.Ytkobjjadojpjfaa.Pr
