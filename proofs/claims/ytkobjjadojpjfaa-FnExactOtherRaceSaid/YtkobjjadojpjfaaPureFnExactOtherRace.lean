/- Proved here: the law FnExactOtherRace answers true at all that comes in; no other condition. -/
import Derived.Test.YtkobjjadojpjfaaSFnExactOtherRace
import Derived.Test.YtkobjjadojpjfaaPL7H
import Derived.Test.YtkobjjadojpjfaaPL1H
namespace Go.Proofs.Ytkobjjadojpjfaa.Pure
open Go.RowKit Go.Proofs.Ytkobjjadojpjfaa.Pr Go.Proofs.YtkobjjadojpjfaaW.PrintWords Go.Proofs.YtkobjjadojpjfaaW.PrintLast
set_option linter.unusedSimpArgs false

theorem OtherRace_same (a b c : Int) (l : List S27) (e f g : Int) (hl : l.length ≤ 1048576) : ∃ (K : Nat) (r : Int × Int × Int × (List S27) × Int × Int × Int × Bool), r.2.2.2.1.length ≤ 1048576 ∧ ∀ k, K ≤ k → spec_OtherRace.f k a b c l e f g = some r ∧ impl_OtherRace.f k a b c l e f g = some r := by
  by_cases h : goodR a b c l e f g = true
  · refine ⟨100, (a, b, c, l, e, g, f, true), hl, fun k hk => ?_⟩
    unfold spec_OtherRace.f impl_OtherRace.f spec_raOwn.f cloneJumps.f
    rw [raGood_eq a b c l e f g k hk, isRace_eq a b c l e f g k hk, h]
    simp only [Option.bind_some, List.length_nil, Nat.zero_add, List.nil_append, if_true]
    rw [if_pos (show l.length < 8796093022208 by omega), if_pos (show l.length < 8796093022208 by omega)]
    exact ⟨rfl, rfl⟩
  · refine ⟨100, (0, 0, 0, [], 0, 0, 0, false), by simp, fun k hk => ?_⟩
    unfold spec_OtherRace.f impl_OtherRace.f
    rw [raGood_eq a b c l e f g k hk, isRace_eq a b c l e f g k hk]
    simp only [Option.bind_some]
    rw [if_neg h, if_neg h]
    exact ⟨rfl, rfl⟩

attribute [local congr] bind_weak in
theorem FnExactOtherRace : laws_FnExactOtherRace.Pure := by
  intro a b c l e f g  wa wb wc hm hw we wf wg
  by_cases hlen : l.length ≤ 1048576
  case neg =>
    refine ⟨0, ?_⟩
    unfold laws_FnExactOtherRace.f
    rw [szRace_eq a b c l e f g _ (by omega) (by omega) hm]
    simp only [Option.bind_some]
    rw [if_pos (by rw [if_neg (by omega)]; omega)]
  obtain ⟨K, ⟨ra, rb, rc, r, re, rf, rg, y⟩, hl0, hr⟩ := OtherRace_same a b c (l.map conv) e f g (by rw [List.length_map]; omega)
  have hl' : r.length ≤ 1048576 := hl0
  obtain ⟨n, hn⟩ : ∃ n, n = 2097300 + K := ⟨_, rfl⟩
  have h0 := fun k hk => (hr k hk).1
  have h1 := fun k hk => (hr k hk).2
  refine ⟨n + 4, ?_⟩
  have hT := fun k hk => toRace_eq a b c l e f g hlen k hk
  have hE := fun k hk => eqRace_same a b c (l.map conv) e f g (by rw [List.length_map]; omega) k hk
  have hlm : (l.map conv).length = l.length := List.length_map ..
  have hS := fun k hk => eqRace_same ra rb rc r re rf rg (by omega) k hk
  have hMB := fun k hk => markRace_eq a b c (l.map conv) e f g (by rw [List.length_map]; omega) k hk
  have hM := fun k hk => markRace_eq ra rb rc r re rf rg (by omega) k hk
  have hH := fun k hk => heldRace_eq ra rb rc r.length re rf rg (by omega) k hk
  have hn1 : (1 + 2 * (r.length : Int) < 0) = False := eq_false (by omega)
  have hn2 : (1 + 2 * ((l.map conv).length : Int) < 0) = False := eq_false (by omega)
  have hz := szRace_eq a b c l e f g 1048576 (by omega) (by omega) hm
  have hz2 : ((if (l.length : Int) ≤ 1048576 then 1048576 - (l.length : Int) else -1) < 0) = False := eq_false (by rw [if_pos (by omega)]; omega)
  generalize l.map conv = L at *
  unfold laws_FnExactOtherRace.f
  simp (disch := omega) only [↓reduceIte, hz, hz2, Option.bind_some, bne_self_eq_false, Bool.false_eq_true, decide_true, laws_FnExactOtherRace.j0, laws_FnExactOtherRace.j1, laws_FnExactOtherRace.j2, hT, h0, h1, hE, hS, hMB, hM, hH, hn1, hn2]


end Go.Proofs.Ytkobjjadojpjfaa.Pure
