/- Proved here: the law FnExactFewestThrows answers true at all that comes in; no other condition. -/
import Derived.Test.YtkobjjadojpjfaaSFnExactFewestThrows
import Derived.Test.YtkobjjadojpjfaaPL10
namespace Go.Proofs.Ytkobjjadojpjfaa.Pure
open Go.RowKit Go.Proofs.Ytkobjjadojpjfaa.Pr Go.Proofs.YtkobjjadojpjfaaW.PrintWords Go.Proofs.YtkobjjadojpjfaaW.PrintLast
set_option linter.unusedSimpArgs false

theorem FewestThrows_same (a b c : Int) (l : List S27) (s : Int) : ∃ (K : Nat) (r : Int × Bool), ∀ k, K ≤ k → spec_FewestThrows.f k a b c l s = some r ∧ impl_FewestThrows.f k a b c l s = some r := by
  by_cases h : (good a b c l && sqr a l s) = true
  · have h' := h
    simp only [Bool.and_eq_true, decide_eq_true_eq] at h'
    have B := Board.of_good h'.1
    have := B.a1; have := B.a2
    obtain ⟨s0, s1⟩ := sqr_le h'.2
    obtain ⟨U, hU, hf⟩ := far_eq B
    refine ⟨700000, if rd U s < 0 then (0, false) else (rd U s, true), fun k hk => ?_⟩
    unfold spec_FewestThrows.f impl_FewestThrows.f
    rw [sqAsked_eq a b c l s k (by omega), areSquares_eq a b c l _ k (by omega), one_square, h, (hf k (by omega)).1, (hf k (by omega)).2]
    simp only [Option.bind_some]
    have hl := hU.len
    rw [if_pos trivial, if_pos trivial, if_pos s0, if_pos s0, if_pos (show s < (U.length : Int) by omega), if_pos (show s < (U.length : Int) by omega)]
    by_cases hn : rd U s < 0
    · rw [if_pos hn, if_pos hn, show mx 0 (rd U s) = 0 by unfold mx; rw [if_neg (by omega)], decide_eq_false (by omega)]
      exact ⟨rfl, rfl⟩
    · rw [if_neg hn, if_neg hn, show mx 0 (rd U s) = rd U s by unfold mx; split <;> omega, decide_eq_true (by omega)]
      exact ⟨rfl, rfl⟩
  · refine ⟨100, (0, false), fun k hk => ?_⟩
    unfold spec_FewestThrows.f impl_FewestThrows.f
    rw [sqAsked_eq a b c l s k (by omega), areSquares_eq a b c l _ k (by omega), one_square]
    simp only [Option.bind_some]
    rw [if_neg h, if_neg h]
    exact ⟨rfl, rfl⟩

attribute [local congr] bind_weak in
theorem FnExactFewestThrows : laws_FnExactFewestThrows.Pure := by
  intro a b c l s wa wb wc hm hw w_s
  by_cases hlen : l.length ≤ 1048576
  case neg =>
    refine ⟨0, ?_⟩
    unfold laws_FnExactFewestThrows.f
    rw [szBoard_eq a b c l _ (by omega) (by omega) hm]
    simp only [Option.bind_some]
    rw [if_pos (by rw [if_neg (by omega)]; omega)]
  obtain ⟨K, r, hr⟩ := FewestThrows_same a b c (l.map conv) s
  obtain ⟨n, hn⟩ : ∃ n, n = 2097300 + K := ⟨_, rfl⟩
  have h0 := fun k hk => (hr k hk).1
  have h1 := fun k hk => (hr k hk).2
  refine ⟨n + 4, ?_⟩
  have hT := fun k hk => toBoard_eq a b c l hlen k hk
  have hE := fun k hk => eqBoard_same a b c (l.map conv) (by rw [List.length_map]; omega) k hk
  have hlm : (l.map conv).length = l.length := List.length_map ..
  have hz := szBoard_eq a b c l 1048576 (by omega) (by omega) hm
  have hz2 : ((if (l.length : Int) ≤ 1048576 then 1048576 - (l.length : Int) else -1) < 0) = False := eq_false (by rw [if_pos (by omega)]; omega)
  generalize l.map conv = L at *
  unfold laws_FnExactFewestThrows.f
  simp (disch := omega) only [↓reduceIte, hz, hz2, Option.bind_some, bne_self_eq_false, Bool.false_eq_true, decide_true, laws_FnExactFewestThrows.j0, hT, h0, h1, hE]


end Go.Proofs.Ytkobjjadojpjfaa.Pure
