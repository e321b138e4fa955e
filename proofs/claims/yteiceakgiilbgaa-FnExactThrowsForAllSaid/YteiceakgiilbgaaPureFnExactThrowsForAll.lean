/- Proved here: the law FnExactThrowsForAll answers true at all whole numbers of 64 bits; no other condition. -/
import Derived.Test.YteiceakgiilbgaaPFnExactThrowsForAllx2
namespace Go.Proofs.Yteiceakgiilbgaa.Pure
open Go.RowKit Go.Proofs.Yteiceakgiilbgaa.PFnExactThrowsForAll Go.Proofs.YteiceakgiilbgaaW.PrintWords Go.Proofs.YteiceakgiilbgaaW.PrintLast

theorem l1In_some (a b c : Int) : spec_l1In.f a b c = some (decide (b ≤ a ∧ a ≤ c)) := by
  unfold spec_l1In.f
  by_cases h : a ≥ b
  · rw [if_pos h]; have h' : b ≤ a := h; simp [h']
  · rw [if_neg h]; have h' : ¬ b ≤ a := h; simp [h']

theorem within_some (a b c : Int) : impl_within.f a b c = some (decide (b ≤ a ∧ a ≤ c)) := l1In_some a b c

/-- each of the few inputs at which there is something to count -/
theorem few : ∀ a : Fin 13, laws_FnExactThrowsForAll.f 60 (a.val : Int) = some true := by decide +kernel

theorem FnExactThrowsForAll : laws_FnExactThrowsForAll.Pure := by
  intro a _
  refine ⟨60, ?_⟩
  by_cases h : 1 ≤ a ∧ a ≤ 12
  · have f := few ⟨a.toNat, by omega⟩
    rw [show ((a.toNat : Nat) : Int) = a by omega] at f
    exact f
  · have e1 : spec_ThrowsForAll.f 60 a = some (0, 0, false) := by
      unfold spec_ThrowsForAll.f spec_diAsked.f
      simp only [l1In_some, Option.bind_some]
      simp [h]
    have e2 : impl_ThrowsForAll.f 60 a = some (0, 0, false) := by
      unfold impl_ThrowsForAll.f impl_areDice.f
      simp only [within_some, Option.bind_some]
      simp [h]
    unfold laws_FnExactThrowsForAll.f
    rw [e1, e2]
    rfl

end Go.Proofs.Yteiceakgiilbgaa.Pure
