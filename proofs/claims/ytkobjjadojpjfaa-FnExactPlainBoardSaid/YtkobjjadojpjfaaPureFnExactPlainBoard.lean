/- Proved here: the law FnExactPlainBoard answers true at all that comes in; no other condition. -/
import Derived.Test.YtkobjjadojpjfaaSFnExactPlainBoard
import Derived.Test.YtkobjjadojpjfaaPL2
namespace Go.Proofs.Ytkobjjadojpjfaa.Pure
open Go.RowKit Go.Proofs.Ytkobjjadojpjfaa.Pr Go.Proofs.YtkobjjadojpjfaaW.PrintWords Go.Proofs.YtkobjjadojpjfaaW.PrintLast
set_option linter.unusedSimpArgs false

theorem PlainBoard_same (a b c : Int) : ∃ r, ∀ k, 100 ≤ k → spec_PlainBoard.f k a b c = some r ∧ impl_PlainBoard.f k a b c = some r ∧ r.2.2.2.1 = [] := by
  refine ⟨if good a b c [] = true then (a, b, c, [], true) else (0, 0, 0, [], false), fun k hk => ?_⟩
  unfold spec_PlainBoard.f impl_PlainBoard.f
  rw [sqGood_eq _ _ _ _ _ (by omega), isBoard_eq _ _ _ _ _ (by omega)]
  simp only [Option.bind_some]
  by_cases h : good a b c [] = true
  · simp [h]
  · simp [h]

theorem FnExactPlainBoard : laws_FnExactPlainBoard.Pure := by
  intro a b c wa wb wc
  obtain ⟨⟨r0, r1, r2, r3, r4⟩, hr⟩ := PlainBoard_same a b c
  obtain ⟨n, hn⟩ : ∃ n, n = 1000 := ⟨_, rfl⟩
  have h0 := fun k hk => (hr k hk).1
  have h1 := fun k hk => (hr k hk).2.1
  obtain rfl : r3 = [] := (hr 100 (by omega)).2.2
  refine ⟨n + 3, ?_⟩
  unfold laws_FnExactPlainBoard.f
  have hM := fun a b c k hk => markBoard_eq a b c [] (by simp) k hk
  have hH := fun a b c k hk => heldBoard_eq a b c 0 (by omega) k hk
  have hE := fun a b c k hk => eqBoard_same a b c [] (by simp) k hk
  have hj1 : ∀ x a' b' c', laws_FnExactPlainBoard.j1 (n + 2) 1 x a' b' c' (marksJ 1 0) = if x = true then some false else some true := fun x a' b' c' => by
    simp only [laws_FnExactPlainBoard.j1]
    rw [hH _ _ _ _ (by omega)]
    simp
  have hj0 : ∀ x, laws_FnExactPlainBoard.j0 (n + 3) a b c r4 x r0 r1 r2 [] r0 r1 r2 [] = if x = true then some false else some true := fun x => by
    simp only [laws_FnExactPlainBoard.j0]
    rw [hM _ _ _ _ (by simp)]
    simp only [Option.bind_some, List.length_nil]
    rw [hH _ _ _ _ (by omega), h1 _ (by omega)]
    simp only [Option.bind_some]
    rw [hE _ _ _ _ (by simp)]
    simp [hj1]
  rw [h0 _ (by omega), h1 _ (by omega)]
  simp only [Option.bind_some]
  rw [hE _ _ _ _ (by simp)]
  simp only [Option.bind_some]
  rw [if_pos trivial, hj0]
  simp

end Go.Proofs.Ytkobjjadojpjfaa.Pure
