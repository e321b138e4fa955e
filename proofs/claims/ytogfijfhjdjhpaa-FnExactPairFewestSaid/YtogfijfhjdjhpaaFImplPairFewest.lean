-- A text of the machine side, written by wip/gen.py of this repo out of the translation. Not trusted: Lean checks it.
import Derived.Test.YtogfijfhjdjhpaaF0
import Derived.Test.YtogfijfhjdjhpaaFImplTwinsFewest
import Derived.Test.YtogfijfhjdjhpaaFImplTwinsOf
namespace Go.Proofs.Ytogfijfhjdjhpaa.Pr
open Go.RowKit Go.Proofs.YtogfijfhjdjhpaaW.PrintWords Go.Proofs.YtogfijfhjdjhpaaW.PrintLast Go.Proofs.YtogfijfhjdjhpaaW.PrintMore
attribute [local go_sem] max2_int min2_int max_two min_two max_three min_three max_four min_four   -- for this text's walks alone
set_option linter.unusedVariables false
set_option linter.unusedSimpArgs false

/-! ### impl_PairFewest: function 8 -/
def impl_PairFewest.f (k : Nat) (a0 : Int) (a1 : Int) (a2 : Int) (a3 : Int) : Option (Int × Bool) := (impl_twinsOf.f a0 a1 a2 a3).bind fun btBD => (if btBD.2.2.2.2 = true then ((impl_twins_fewest.f k btBD.1 btBD.2.1 btBD.2.2.1 btBD.2.2.2.1).bind fun tBJ => (some (tBJ, true))) else (some (0, false)))
set_option maxHeartbeats 8000000 in
set_option maxRecDepth 100000 in
theorem impl_PairFewest.calls (k : Nat) (a0 : Int) (a1 : Int) (a2 : Int) (a3 : Int) (r1 : Int) (r2 : Bool) (w : World) (h : impl_PairFewest.f k a0 a1 a2 a3 = some (r1, r2)) :
  Calls Try.prog 8 #[.int .i64 a0, .int .i64 a1, .int .i64 a2, .int .i64 a3] w fun e w' => e = .returned (.tuple #[.int .i64 r1, .bool r2]) ∧ Below w.heap.size w w' := by
 have hu38 := Try.underlying38
 have hu36 := Try.underlying36
 have HB := Aside0.mk (Below.refl w.heap.size w)
 have H : ((impl_twinsOf.f a0 a1 a2 a3).bind fun btBD => (if btBD.2.2.2.2 = true then ((impl_twins_fewest.f k btBD.1 btBD.2.1 btBD.2.2.1 btBD.2.2.2.1).bind fun tBJ => (some (tBJ, true))) else (some (0, false)))) = some (r1, r2) := h
 clear h
 replace H := Option.bind_eq_some_iff.mp H
 obtain ⟨⟨tBD, tBE, tBF, tBG, tBH⟩, A50, H⟩ := H
 replace H : (if tBH = true then ((impl_twins_fewest.f k tBD tBE tBF tBG).bind fun tBJ => (some (tBJ, true))) else (some (0, false))) = some (r1, r2) := H
 have A5 := Aside0.mk A50
 clear A50
 by_cases c6 : tBH = true
 ·subst c6
  have H1 : ((impl_twins_fewest.f k tBD tBE tBF tBG).bind fun tBJ => (some (tBJ, true))) = some (r1, r2) := by rw [if_pos rfl] at H; exact H
  clear H
  have H := H1
  clear H1
  replace H := Option.bind_eq_some_iff.mp H
  obtain ⟨tBJ, A70, H⟩ := H
  replace H : (some (tBJ, true)) = some (r1, r2) := H
  have A7 := Aside0.mk A70
  clear A70
  simp only [Option.some.injEq, Prod.mk.injEq] at H
  obtain ⟨rfl, rfl⟩ := H
  go_enter Try.func8, Try.ntmps8
  go_wp2_with (first | ((with_reducible refine gate_callee (f := 23) rfl ?_); refine goesL_ (some 17) rfl rfl Try.func23 (by kernel_rfl) rfl #[.int .i64 a0, .int .i64 a1, .int .i64 a2, .int .i64 a3] rfl argS ?_; (with_reducible refine (impl_twinsOf.calls a0 a1 a2 a3 tBD tBE tBF tBG true _ A5.out).mono ?_); rintro e w8 ⟨rfl, hb⟩; refine ⟨_, rfl, ?_⟩; have n0_ := Aside0.mk (below_step belS hb); clear HB; revert n0_; intro HB; (try clear hb)) | ((with_reducible refine gate_dst (N := 10) rfl ?_); refine box_event ?hg (N := 10) ?hd (cs := #[.int .i64 0, .int .i64 0, .int .i64 0, .int .i64 0]) (t := 38) ?hr ?_; (case hd => rfl); (case hg => rfl); (case hr => first | (go_simp; done) | (go_simp; rfl)); intro gbBI hg w9 hbox hb; have n0_ := Aside0.mk (below_step belS hb); have n1_ := Aside0.mk (hbox); have n2_ := Aside0.mk (geS hg : w.heap.size ≤ gbBI); have n3_ := n2_; clear HB; revert n0_ n1_ n2_ n3_; intro HB BKBI GWBI GEBI; clear hb hbox hg; obtain ⟨hcz10_0, hcz10_1, hcz10_2, hcz10_3, hfz10_0, hfz10_1, hfz10_2, hfz10_3⟩ := blk4 BKBI.out) | ((with_reducible refine gate_callee (f := 24) rfl ?_); refine goesL_ (some 23) rfl rfl Try.func24 (by kernel_rfl) rfl #[.agg #[.int .i64 tBD, .int .i64 tBE, .int .i64 tBF, .int .i64 tBG]] rfl argS ?_; (with_reducible refine (impl_twins_fewest.calls k tBD tBE tBF tBG tBJ _ A7.out).mono ?_); rintro e w11 ⟨rfl, hb⟩; refine ⟨_, rfl, ?_⟩; have n0_ := Aside0.mk (blk_below (g := gbBI) (o := .cells #[.int .i64 tBD, .int .i64 tBE, .int .i64 tBF, .int .i64 tBG] 38 (0, 0)) (by (with_reducible repeat (first | refine blk_drewN ?_ _ | refine blk_drew ?_ | refine blk_alloc ?_ _)); refine blk_put (cs := #[.int .i64 tBD, .int .i64 tBE, .int .i64 tBF, .int .i64 0]) ?_ 3 _ rfl; refine blk_put (cs := #[.int .i64 tBD, .int .i64 tBE, .int .i64 0, .int .i64 0]) ?_ 2 _ rfl; refine blk_put (cs := #[.int .i64 tBD, .int .i64 0, .int .i64 0, .int .i64 0]) ?_ 1 _ rfl; refine blk_putU (cs := #[.int .i64 0, .int .i64 0, .int .i64 0, .int .i64 0]) ?_ 0 _ rfl; exact BKBI.out) hb); have n1_ := Aside0.mk (below_step belS hb); clear BKBI HB; revert n0_ n1_; intro BKBI HB; (try clear hb)))
  go_ret2
  exact ⟨by first | rfl | (simp [errW_none, errW_some] <;> rfl) | (simp [*, errW_none, errW_some] <;> rfl), by exact belS⟩
 ·replace c6 := Bool.eq_false_iff.mpr c6
  subst c6
  have H1 : (some (0, false)) = some (r1, r2) := by rw [if_neg (show ¬ (false = true) by decide)] at H; exact H
  clear H
  have H := H1
  clear H1
  simp only [Option.some.injEq, Prod.mk.injEq] at H
  obtain ⟨rfl, rfl⟩ := H
  go_enter Try.func8, Try.ntmps8
  go_wp2_with (first | ((with_reducible refine gate_callee (f := 23) rfl ?_); refine goesL_ (some 17) rfl rfl Try.func23 (by kernel_rfl) rfl #[.int .i64 a0, .int .i64 a1, .int .i64 a2, .int .i64 a3] rfl argS ?_; (with_reducible refine (impl_twinsOf.calls a0 a1 a2 a3 tBD tBE tBF tBG false _ A5.out).mono ?_); rintro e w12 ⟨rfl, hb⟩; refine ⟨_, rfl, ?_⟩; have n0_ := Aside0.mk (below_step belS hb); clear HB; revert n0_; intro HB; (try clear hb)) | ((with_reducible refine gate_dst (N := 10) rfl ?_); refine box_event ?hg (N := 10) ?hd (cs := #[.int .i64 0, .int .i64 0, .int .i64 0, .int .i64 0]) (t := 38) ?hr ?_; (case hd => rfl); (case hg => rfl); (case hr => first | (go_simp; done) | (go_simp; rfl)); intro gbBI hg w13 hbox hb; have n0_ := Aside0.mk (below_step belS hb); have n1_ := Aside0.mk (hbox); have n2_ := Aside0.mk (geS hg : w.heap.size ≤ gbBI); have n3_ := n2_; clear HB; revert n0_ n1_ n2_ n3_; intro HB BKBI GWBI GEBI; clear hb hbox hg; obtain ⟨hcz14_0, hcz14_1, hcz14_2, hcz14_3, hfz14_0, hfz14_1, hfz14_2, hfz14_3⟩ := blk4 BKBI.out))
  go_ret2
  exact ⟨by first | rfl | (simp [errW_none, errW_some] <;> rfl) | (simp [*, errW_none, errW_some] <;> rfl), by exact belS⟩

end Go.Proofs.Ytogfijfhjdjhpaa.Pr
