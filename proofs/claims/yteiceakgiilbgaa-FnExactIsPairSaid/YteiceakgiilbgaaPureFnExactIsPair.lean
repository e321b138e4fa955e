/- Proved here: the law FnExactIsPair answers true at all whole numbers of 64 bits; no other condition. -/
import Derived.Test.YteiceakgiilbgaaPFnExactIsPairx1
namespace Go.Proofs.Yteiceakgiilbgaa.Pure
open Go.RowKit Go.Proofs.Yteiceakgiilbgaa.PFnExactIsPair Go.Proofs.YteiceakgiilbgaaW.PrintWords Go.Proofs.YteiceakgiilbgaaW.PrintLast

theorem l1In_some (a b c : Int) : spec_l1In.f a b c = some (decide (b ≤ a ∧ a ≤ c)) := by
  unfold spec_l1In.f
  by_cases h : a ≥ b
  · rw [if_pos h]; have h' : b ≤ a := h; simp [h']
  · rw [if_neg h]; have h' : ¬ b ≤ a := h; simp [h']

theorem within_some (a b c : Int) : impl_within.f a b c = some (decide (b ≤ a ∧ a ≤ c)) := l1In_some a b c

theorem FnExactIsPair : laws_FnExactIsPair.Pure := by
  intro a b c d _ _ _ _
  have e : impl_IsPair.f a b c d = spec_IsPair.f a b c d := by
    unfold impl_IsPair.f spec_IsPair.f spec_oiGood.f
    simp only [l1In_some, within_some, Option.bind_some]
    repeat' split
    all_goals rfl
  have t : ∃ r, spec_IsPair.f a b c d = some r := by
    unfold spec_IsPair.f spec_oiGood.f
    simp only [l1In_some, Option.bind_some]
    repeat' split
    all_goals exact ⟨_, rfl⟩
  obtain ⟨r, hr⟩ := t
  unfold laws_FnExactIsPair.f
  rw [e, hr]
  simp

end Go.Proofs.Yteiceakgiilbgaa.Pure
