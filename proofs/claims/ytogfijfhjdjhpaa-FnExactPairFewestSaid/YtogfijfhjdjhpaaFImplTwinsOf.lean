-- A text of the machine side, written by wip/gen.py of this repo out of the translation. Not trusted: Lean checks it.
import Derived.Test.YtogfijfhjdjhpaaF0
import Derived.Test.YtogfijfhjdjhpaaFImplIsPair
namespace Go.Proofs.Ytogfijfhjdjhpaa.Pr
open Go.RowKit Go.Proofs.YtogfijfhjdjhpaaW.PrintWords Go.Proofs.YtogfijfhjdjhpaaW.PrintLast Go.Proofs.YtogfijfhjdjhpaaW.PrintMore
attribute [local go_sem] max2_int min2_int max_two min_two max_three min_three max_four min_four   -- for this text's walks alone
set_option linter.unusedVariables false
set_option linter.unusedSimpArgs false

/-! ### impl_twinsOf: function 23 -/
def impl_twinsOf.f (a0 : Int) (a1 : Int) (a2 : Int) (a3 : Int) : Option (Int × Int × Int × Int × Bool) := (impl_IsPair.f a0 a1 a2 a3).bind fun tBE => (some (a0, a1, a2, a3, tBE))
set_option maxHeartbeats 8000000 in
set_option maxRecDepth 100000 in
theorem impl_twinsOf.calls (a0 : Int) (a1 : Int) (a2 : Int) (a3 : Int) (r1 : Int) (r2 : Int) (r3 : Int) (r4 : Int) (r5 : Bool) (w : World) (h : impl_twinsOf.f a0 a1 a2 a3 = some (r1, r2, r3, r4, r5)) :
  Calls Try.prog 23 #[.int .i64 a0, .int .i64 a1, .int .i64 a2, .int .i64 a3] w fun e w' => e = .returned (.tuple #[.agg #[.int .i64 r1, .int .i64 r2, .int .i64 r3, .int .i64 r4], .bool r5]) ∧ Below w.heap.size w w' := by
 have hu38 := Try.underlying38
 have hu36 := Try.underlying36
 have HB := Aside0.mk (Below.refl w.heap.size w)
 have H : ((impl_IsPair.f a0 a1 a2 a3).bind fun tBE => (some (a0, a1, a2, a3, tBE))) = some (r1, r2, r3, r4, r5) := h
 clear h
 replace H := Option.bind_eq_some_iff.mp H
 obtain ⟨tBE, A50, H⟩ := H
 replace H : (some (a0, a1, a2, a3, tBE)) = some (r1, r2, r3, r4, r5) := H
 have A5 := Aside0.mk A50
 clear A50
 simp only [Option.some.injEq, Prod.mk.injEq] at H
 obtain ⟨rfl, rfl, rfl, rfl, rfl⟩ := H
 go_enter Try.func23, Try.ntmps23
 go_wp2_with (first | ((with_reducible refine gate_dst (N := 8) rfl ?_); refine box_event ?hg (N := 8) ?hd (cs := #[.int .i64 0, .int .i64 0, .int .i64 0, .int .i64 0]) (t := 38) ?hr ?_; (case hd => rfl); (case hg => rfl); (case hr => first | (go_simp; done) | (go_simp; rfl)); intro gbBD hg w6 hbox hb; have n0_ := Aside0.mk (below_step belS hb); have n1_ := Aside0.mk (hbox); have n2_ := Aside0.mk (geS hg : w.heap.size ≤ gbBD); have n3_ := n2_; clear HB; revert n0_ n1_ n2_ n3_; intro HB BKBD GWBD GEBD; clear hb hbox hg) | ((with_reducible refine gate_callee (f := 36) rfl ?_); refine goesL_ (some 20) rfl rfl Try.func36 (by kernel_rfl) rfl #[.int .i64 a0, .int .i64 a1, .int .i64 a2, .int .i64 a3] rfl argS ?_; (with_reducible refine (impl_IsPair.calls a0 a1 a2 a3 tBE _ A5.out).mono ?_); rintro e w' ⟨rfl, ⟨nd, rfl⟩⟩; refine ⟨_, rfl, ?_⟩; (try (rw [drewN_self w6]; generalize hq_ : World.drewN w6 _ = w6; have n0_ : Aside0 (w6.heap[gbBD]? = some (.cells #[.int .i64 0, .int .i64 0, .int .i64 0, .int .i64 0] 38 (0, 0))) := ⟨by rw [← hq_]; exact (blk_up BKBD.out)⟩; have n1_ : Aside0 (Below w.heap.size w w6) := ⟨by rw [← hq_]; exact belS⟩; clear BKBD HB hq_; revert n0_ n1_; intro BKBD HB)); obtain ⟨hcz7_0, hcz7_1, hcz7_2, hcz7_3, hfz7_0, hfz7_1, hfz7_2, hfz7_3⟩ := blk4 BKBD.out))
 refine bodyPost_ret (results_ct rfl _ _ gbBD 38 #[.int .i64 a0, .int .i64 a1, .int .i64 a2, .int .i64 a3] (0, 0) _ rfl (by (with_reducible repeat (first | refine blk_drewN ?_ _ | refine blk_drew ?_ | refine blk_alloc ?_ _)); refine blk_put (cs := #[.int .i64 a0, .int .i64 a1, .int .i64 a2, .int .i64 0]) ?_ 3 _ rfl; refine blk_put (cs := #[.int .i64 a0, .int .i64 a1, .int .i64 0, .int .i64 0]) ?_ 2 _ rfl; refine blk_put (cs := #[.int .i64 a0, .int .i64 0, .int .i64 0, .int .i64 0]) ?_ 1 _ rfl; refine blk_putU (cs := #[.int .i64 0, .int .i64 0, .int .i64 0, .int .i64 0]) ?_ 0 _ rfl; exact BKBD.out) Try.underlying38 rfl (by kernel_rfl)) rfl ?_
 exact ⟨by first | rfl | (simp [errW_none, errW_some] <;> rfl) | (simp [*, errW_none, errW_some] <;> rfl), by exact belS⟩

end Go.Proofs.Ytogfijfhjdjhpaa.Pr
