/- Proved here: the law FnExactBoardText answers true at all that comes in; no other condition. -/
import Derived.Test.YtnbleinhabllnaaDoorSFnExactBoardText
import Derived.Test.YtnbleinhabllnaaDoorPL3
namespace Go.Proofs.YtnbleinhabllnaaDoor.Pure
open Go.RowKit Go.Proofs.YtnbleinhabllnaaDoor.Pr Go.Proofs.YtnbleinhabllnaaDoorW.PrintWords Go.Proofs.YtnbleinhabllnaaDoorW.PrintLast
set_option linter.unusedSimpArgs false
set_option linter.unusedVariables false

theorem BoardText_same (a b c : Int) (l : List S61) : ∃ (K : Nat) (r : ByteArray × Bool), ∀ k, K ≤ k → spec_BoardText.f k a b c l = some r ∧ impl_BoardText.f k a b c l = some r := by
  by_cases h : good a b c l = true
  · obtain ⟨t, ht⟩ := text_eq h
    refine ⟨200, (t, true), fun k hk => ?_⟩
    unfold spec_BoardText.f impl_BoardText.f
    rw [sqGood_eq a b c l k (by omega), isBoard_eq a b c l k (by omega), h]
    simp only [Option.bind_some, if_true]
    rw [(ht k (by omega)).1, (ht k (by omega)).2]
    exact ⟨rfl, rfl⟩
  · refine ⟨200, (⟨#[]⟩, false), fun k hk => ?_⟩
    unfold spec_BoardText.f impl_BoardText.f
    rw [sqGood_eq a b c l k (by omega), isBoard_eq a b c l k (by omega)]
    simp only [Option.bind_some]
    rw [if_neg h, if_neg h]
    exact ⟨rfl, rfl⟩

attribute [local congr] bind_weak in
theorem FnExactBoardText : laws_FnExactBoardText.Pure := by
  intro a b c l  wa wb wc hm hw
  by_cases hlen : l.length ≤ 1048576
  case neg =>
    refine ⟨0, ?_⟩
    unfold laws_FnExactBoardText.f
    rw [szBoard_eq a b c l _ (by omega) (by omega) hm]
    simp only [Option.bind_some]
    rw [if_pos (by rw [if_neg (by omega)]; omega)]
  obtain ⟨K, r, hr⟩ := BoardText_same a b c (l.map conv)
  obtain ⟨n, hn⟩ : ∃ n, n = 2097300 + K := ⟨_, rfl⟩
  have h0 := fun k hk => (hr k hk).1
  have h1 := fun k hk => (hr k hk).2
  refine ⟨n + 4, ?_⟩
  have hT := fun k hk => toBoard_eq a b c l hlen k hk
  have hE := fun k hk => eqBoard_same a b c (l.map conv) (by rw [List.length_map]; omega) k hk
  have hlm : (l.map conv).length = l.length := List.length_map ..
  have hz := szBoard_eq a b c l 1048576 (by omega) (by omega) hm
  have hz2 : ((if (l.length : Int) ≤ 1048576 then 1048576 - (l.length : Int) else -1) < 0) = False := eq_false (by rw [if_pos (by omega)]; omega)
  generalize l.map conv = L at *
  unfold laws_FnExactBoardText.f
  simp (maxSteps := 2000000) (disch := omega) only [↓reduceIte, hz, hz2, Option.bind_some, bne_self_eq_false, Bool.false_eq_true, decide_true, laws_FnExactBoardText.j0, hT, h0, h1, hE]


end Go.Proofs.YtnbleinhabllnaaDoor.Pure
