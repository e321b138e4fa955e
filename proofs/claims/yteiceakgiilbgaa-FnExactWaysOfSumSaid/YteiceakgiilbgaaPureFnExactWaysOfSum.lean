/- Proved here: the law FnExactWaysOfSum answers true at all that comes in; no other condition. -/
import Derived.Test.YteiceakgiilbgaaFLawsFnExactWaysOfSum
import Derived.Test.YteiceakgiilbgaaPW4
namespace Go.Proofs.Yteiceakgiilbgaa.Pure
open Go.RowKit Go.Proofs.Yteiceakgiilbgaa.Pr Go.Proofs.YteiceakgiilbgaaW.PrintWords Go.Proofs.YteiceakgiilbgaaW.PrintLast
set_option linter.unusedSimpArgs false
set_option linter.unusedVariables false

theorem FnExactWaysOfSum : laws_FnExactWaysOfSum.Pure := by
  intro a b s _ _ _
  refine ⟨30002, ?_⟩
  unfold laws_FnExactWaysOfSum.f spec_WaysOfSum.f impl_WaysOfSum.f
  rw [areDice_eq, diAsked_eq]
  simp only [within_some, l1In_some, Option.bind_some, spec_WaysOfSum.j0, impl_WaysOfSum.j0]
  by_cases h : okD a b = true
  · rw [if_pos h, if_pos h]
    by_cases g : 0 ≤ s ∧ s ≤ 200
    · obtain ⟨d, F, rfl, rfl, d1, d8, F1, F12⟩ := okD_nat h
      obtain ⟨r, hr, e1, e2⟩ := tables_eq d1 d8 F1 F12 30001 (by omega)
      rw [decide_eq_true g, e1, e2]
      simp only [Option.bind_some, Bool.not_true, Bool.false_eq_true, if_false]
      unfold impl_at.f
      by_cases hs : s ≥ (r.length : Int)
      · rw [if_pos hs, if_pos hs]
        rfl
      · rw [if_neg hs, if_neg hs, if_pos g.1, if_pos (by omega), if_pos g.1, if_pos (by omega)]
        simp
    · rw [decide_eq_false g]
      rfl
  · rw [if_neg h, if_neg h]
    rfl

end Go.Proofs.Yteiceakgiilbgaa.Pure
