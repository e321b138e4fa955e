/- Proved here: the law FnExactCountGreatest answers true at all whole numbers of 64 bits; no other condition. -/
import Derived.Test.YteiceakgiilbgaaPFnExactCountGreatestx1
namespace Go.Proofs.Yteiceakgiilbgaa.Pure
open Go.RowKit Go.Proofs.Yteiceakgiilbgaa.PFnExactCountGreatest Go.Proofs.YteiceakgiilbgaaW.PrintWords Go.Proofs.YteiceakgiilbgaaW.PrintLast

theorem l1In_some (a b c : Int) : spec_l1In.f a b c = some (decide (b ≤ a ∧ a ≤ c)) := by
  unfold spec_l1In.f
  by_cases h : a ≥ b
  · rw [if_pos h]; have h' : b ≤ a := h; simp [h']
  · rw [if_neg h]; have h' : ¬ b ≤ a := h; simp [h']

theorem within_some (a b c : Int) : impl_within.f a b c = some (decide (b ≤ a ∧ a ≤ c)) := l1In_some a b c

/-- each of the few inputs at which there is something to count -/
theorem few : ∀ a : Fin 9, ∀ b : Fin 13, ∀ c : Fin 13, laws_FnExactCountGreatest.f 20 (a.val : Int) (b.val : Int) (c.val : Int) = some true := by decide +kernel

theorem FnExactCountGreatest : laws_FnExactCountGreatest.Pure := by
  intro a b c _ _ _
  refine ⟨20, ?_⟩
  by_cases h : (1 ≤ a ∧ a ≤ 8) ∧ (1 ≤ b ∧ b ≤ 12) ∧ (1 ≤ c ∧ c ≤ b)
  · have f := few ⟨a.toNat, by omega⟩ ⟨b.toNat, by omega⟩ ⟨c.toNat, by omega⟩
    rw [show ((a.toNat : Nat) : Int) = a by omega, show ((b.toNat : Nat) : Int) = b by omega, show ((c.toNat : Nat) : Int) = c by omega] at f
    exact f
  · have e1 : spec_CountGreatest.f 20 a b c = some (0, false) := by
      unfold spec_CountGreatest.f spec_diAsked.f
      simp only [l1In_some, Option.bind_some]
      by_cases h1 : 1 ≤ a ∧ a ≤ 8
      · by_cases h2 : 1 ≤ b ∧ b ≤ 12
        · have h3 : ¬ (1 ≤ c ∧ c ≤ b) := fun h3 => h ⟨h1, h2, h3⟩
          simp [h1, h2, h3, spec_CountGreatest.j0]
        · simp [h1, h2, spec_CountGreatest.j0]
      · simp [h1, spec_CountGreatest.j0]
    have e2 : impl_CountGreatest.f 20 a b c = some (0, false) := by
      unfold impl_CountGreatest.f impl_areDice.f
      simp only [within_some, Option.bind_some]
      by_cases h1 : 1 ≤ a ∧ a ≤ 8
      · by_cases h2 : 1 ≤ b ∧ b ≤ 12
        · have h3 : ¬ (1 ≤ c ∧ c ≤ b) := fun h3 => h ⟨h1, h2, h3⟩
          simp [h1, h2, h3, impl_CountGreatest.j0]
        · simp [h1, h2, impl_CountGreatest.j0]
      · simp [h1, impl_CountGreatest.j0]
    unfold laws_FnExactCountGreatest.f
    rw [e1, e2]
    rfl

end Go.Proofs.Yteiceakgiilbgaa.Pure
