/- Proved here: the law FnExactThrowTo answers true at all that comes in; no other condition. -/
import Derived.Test.YtkobjjadojpjfaaSFnExactThrowTo
import Derived.Test.YtkobjjadojpjfaaPL2
namespace Go.Proofs.Ytkobjjadojpjfaa.Pure
open Go.RowKit Go.Proofs.Ytkobjjadojpjfaa.Pr Go.Proofs.YtkobjjadojpjfaaW.PrintWords Go.Proofs.YtkobjjadojpjfaaW.PrintLast

theorem ThrowTo_same (a b c : Int) (l : List S27) (s f : Int) : ∃ r, ∀ k, 100 ≤ k → spec_ThrowTo.f k a b c l s f = some r ∧ impl_ThrowTo.f k a b c l s f = some r := by
  by_cases h : good a b c l = true ∧ sqr a l s = true ∧ (1 ≤ f ∧ f ≤ b)
  · obtain ⟨h1, h2, h3⟩ := h
    have B := Board.of_good h1
    obtain ⟨s0, s1⟩ := sqr_le h2
    refine ⟨(thr a c l s f, true), fun k hk => ?_⟩
    unfold spec_ThrowTo.f impl_ThrowTo.f
    rw [sqAsked_eq a b c l s k hk, areSquares_eq a b c l _ k hk, l1In_some, within_some, throw_eq B s f s0 s1 h3.1 h3.2 k (by omega), sqThrow_eq B s f s0 s1 h3.1 h3.2 k (by omega)]
    simp [h1, h2, h3]
  · refine ⟨(0, false), fun k hk => ?_⟩
    unfold spec_ThrowTo.f impl_ThrowTo.f
    rw [sqAsked_eq a b c l s k hk, areSquares_eq a b c l _ k hk, l1In_some, within_some]
    simp only [Option.bind_some, List.all_cons, List.all_nil, Bool.and_true]
    by_cases h1 : (good a b c l && sqr a l s) = true
    · rw [if_pos h1, if_pos h1]
      rw [Bool.and_eq_true] at h1
      have h3 : ¬ (1 ≤ f ∧ f ≤ b) := fun h3 => h ⟨h1.1, h1.2, h3⟩
      rw [decide_eq_false h3]
      exact ⟨rfl, rfl⟩
    · rw [if_neg h1, if_neg h1]
      exact ⟨rfl, rfl⟩

theorem FnExactThrowTo : laws_FnExactThrowTo.Pure := by
  intro a b c l s f wa wb wc hm hw ws wf
  by_cases hlen : l.length ≤ 1048576
  · obtain ⟨r, hr⟩ := ThrowTo_same a b c (l.map conv) s f
    refine ⟨1048700 + 1, ?_⟩
    have hT := fun k hk => toBoard_eq a b c l hlen k hk
    have hE := eqBoard_same a b c (l.map conv) (by rw [List.length_map]; omega)
    unfold laws_FnExactThrowTo.f
    simp only [laws_FnExactThrowTo.j0]
    rw [szBoard_eq a b c l _ (by omega) (by omega) hm, hT _ (by omega), hT _ (by omega)]
    simp only [Option.bind_some]
    rw [(hr _ (by omega)).1, (hr _ (by omega)).2]
    simp only [Option.bind_some]
    rw [hE _ (by rw [List.length_map]; omega), if_neg (by split <;> omega)]
    simp
  · refine ⟨0, ?_⟩
    unfold laws_FnExactThrowTo.f
    rw [szBoard_eq a b c l _ (by omega) (by omega) hm]
    simp only [Option.bind_some]
    rw [if_pos (by rw [if_neg (by omega)]; omega)]

end Go.Proofs.Ytkobjjadojpjfaa.Pure
