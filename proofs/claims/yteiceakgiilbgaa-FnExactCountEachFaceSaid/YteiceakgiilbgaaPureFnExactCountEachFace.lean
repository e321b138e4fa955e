/- Proved here: the law FnExactCountEachFace answers true at all that comes in; no other condition. -/
import Derived.Test.YteiceakgiilbgaaFLawsFnExactCountEachFace
import Derived.Test.YteiceakgiilbgaaHCountEachFace
namespace Go.Proofs.Yteiceakgiilbgaa.Pure
open Go.RowKit Go.Proofs.Yteiceakgiilbgaa.Pr Go.Proofs.YteiceakgiilbgaaW.PrintWords Go.Proofs.YteiceakgiilbgaaW.PrintLast
set_option linter.unusedSimpArgs false

theorem each_all : ∀ d : Fin 8, ∀ n : Fin 12, laws_FnExactCountEachFace.f 3000 ((d.val + 1 : Nat) : Int) ((n.val + 1 : Nat) : Int) = some true := by decide +kernel

theorem FnExactCountEachFace : laws_FnExactCountEachFace.Pure := by
  intro a0 a1 w0 w1
  refine ⟨3000, ?_⟩
  by_cases h : (1 ≤ a0 ∧ a0 ≤ 8) ∧ (1 ≤ a1 ∧ a1 ≤ 12)
  · have := each_all ⟨(a0 - 1).toNat, by omega⟩ ⟨(a1 - 1).toNat, by omega⟩
    rw [show (((a0 - 1).toNat + 1 : Nat) : Int) = a0 by omega, show (((a1 - 1).toNat + 1 : Nat) : Int) = a1 by omega] at this
    exact this
  · have e1 : spec_diAsked.f a0 a1 = some false := by
      unfold spec_diAsked.f spec_l1In.f
      by_cases c1 : a0 ≥ 1
      · by_cases c2 : a0 ≤ 8
        · by_cases c3 : a1 ≥ 1
          · have c4 : ¬ a1 ≤ 12 := fun x => h ⟨⟨c1, c2⟩, c3, x⟩
            simp [c1, c2, c3, c4]
          · simp [c1, c2, c3]
        · simp [c1, c2]
      · simp [c1]
    have e2 : impl_areDice.f a0 a1 = some false := by
      unfold impl_areDice.f impl_within.f
      by_cases c1 : a0 ≥ 1
      · by_cases c2 : a0 ≤ 8
        · by_cases c3 : a1 ≥ 1
          · have c4 : ¬ a1 ≤ 12 := fun x => h ⟨⟨c1, c2⟩, c3, x⟩
            simp [c1, c2, c3, c4]
          · simp [c1, c2, c3]
        · simp [c1, c2]
      · simp [c1]
    unfold laws_FnExactCountEachFace.f spec_CountEachFace.f impl_CountEachFace.f
    rw [e1, e2]
    rfl

end Go.Proofs.Yteiceakgiilbgaa.Pure
