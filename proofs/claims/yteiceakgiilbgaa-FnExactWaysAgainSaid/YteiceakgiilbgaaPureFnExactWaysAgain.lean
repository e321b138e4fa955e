/- Proved here: the law FnExactWaysAgain answers true at all whole numbers of 64 bits; no other condition. -/
import Derived.Test.YteiceakgiilbgaaPFnExactWaysAgainx2
namespace Go.Proofs.Yteiceakgiilbgaa.Pure
open Go.RowKit Go.Proofs.Yteiceakgiilbgaa.PFnExactWaysAgain Go.Proofs.YteiceakgiilbgaaW.PrintWords Go.Proofs.YteiceakgiilbgaaW.PrintLast

theorem l1In_some (a b c : Int) : spec_l1In.f a b c = some (decide (b ≤ a ∧ a ≤ c)) := by
  unfold spec_l1In.f
  by_cases h : a ≥ b
  · rw [if_pos h]; have h' : b ≤ a := h; simp [h']
  · rw [if_neg h]; have h' : ¬ b ≤ a := h; simp [h']

theorem within_some (a b c : Int) : impl_within.f a b c = some (decide (b ≤ a ∧ a ≤ c)) := l1In_some a b c

/-- at each of the few dice and numbers of times both tables are one -/
theorem few : ∀ a : Fin 12, ∀ b : Fin 7, (impl_again.f 150 ((a.val + 1 : Nat) : Int) (b.val : Int) == spec_diAgain.f 150 ((a.val + 1 : Nat) : Int) (b.val : Int) && (spec_diAgain.f 150 ((a.val + 1 : Nat) : Int) (b.val : Int)).isSome) = true := by decide +kernel

theorem FnExactWaysAgain : laws_FnExactWaysAgain.Pure := by
  intro a b c _ _ _
  refine ⟨151, ?_⟩
  by_cases h : (1 ≤ a ∧ a ≤ 12) ∧ (0 ≤ b ∧ b ≤ 6) ∧ (0 ≤ c ∧ c ≤ 200)
  · obtain ⟨h1, h2, h3⟩ := h
    have f := few ⟨a.toNat - 1, by omega⟩ ⟨b.toNat, by omega⟩
    rw [show ((a.toNat - 1 + 1 : Nat) : Int) = a by omega, show ((b.toNat : Nat) : Int) = b by omega] at f
    rw [Bool.and_eq_true] at f
    obtain ⟨f1, f2⟩ := f
    obtain ⟨t, ht⟩ := Option.isSome_iff_exists.mp f2
    have f3 : impl_again.f 150 a b = some t := by rw [← ht]; exact eq_of_beq f1
    have q : ∃ r, spec_WaysAgain.f 151 a b c = some r ∧ impl_WaysAgain.f 151 a b c = some r := by
      unfold spec_WaysAgain.f spec_diMore.f spec_diAsked.f impl_WaysAgain.f impl_isAgain.f impl_areDice.f
      simp only [l1In_some, within_some, Option.bind_some]
      simp only [h1, h2, h3, and_self, decide_true, if_true, Bool.not_true, Option.bind_some, show (1 : Int) ≤ 1 ∧ (1 : Int) ≤ 8 from by omega]
      simp only [spec_WaysAgain.j0, impl_WaysAgain.j0, ht, f3, Option.bind_some, impl_at.f]
      by_cases g : c ≥ (t.length : Int)
      · rw [if_pos g, if_pos g]
        exact ⟨_, rfl, rfl⟩
      · rw [if_neg g, if_neg g, if_pos h3.1, if_pos (show c < (t.length : Int) by omega), if_pos h3.1, if_pos (show c < (t.length : Int) by omega)]
        exact ⟨_, rfl, rfl⟩
    obtain ⟨r, q1, q2⟩ := q
    unfold laws_FnExactWaysAgain.f
    rw [q1, q2]
    simp
  · have e1 : spec_WaysAgain.f 151 a b c = some (0, false) := by
      unfold spec_WaysAgain.f spec_diMore.f spec_diAsked.f
      simp only [l1In_some, Option.bind_some]
      by_cases h1 : 1 ≤ a ∧ a ≤ 12
      · by_cases h2 : 0 ≤ b ∧ b ≤ 6
        · have h3 : ¬ (0 ≤ c ∧ c ≤ 200) := fun h3 => h ⟨h1, h2, h3⟩
          simp [h1, h2, h3, spec_WaysAgain.j0]
        · simp [h1, h2, spec_WaysAgain.j0]
      · simp [h1, spec_WaysAgain.j0]
    have e2 : impl_WaysAgain.f 151 a b c = some (0, false) := by
      unfold impl_WaysAgain.f impl_isAgain.f impl_areDice.f
      simp only [within_some, Option.bind_some]
      by_cases h1 : 1 ≤ a ∧ a ≤ 12
      · by_cases h2 : 0 ≤ b ∧ b ≤ 6
        · have h3 : ¬ (0 ≤ c ∧ c ≤ 200) := fun h3 => h ⟨h1, h2, h3⟩
          simp [h1, h2, h3, impl_WaysAgain.j0]
        · simp [h1, h2, impl_WaysAgain.j0]
      · simp [h1, impl_WaysAgain.j0]
    unfold laws_FnExactWaysAgain.f
    rw [e1, e2]
    rfl

end Go.Proofs.Yteiceakgiilbgaa.Pure
