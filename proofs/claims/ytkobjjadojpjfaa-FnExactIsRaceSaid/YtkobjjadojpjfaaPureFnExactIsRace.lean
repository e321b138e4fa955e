/- Proved here: the law FnExactIsRace answers true at all that comes in; no other condition. -/
import Derived.Test.YtkobjjadojpjfaaSFnExactIsRace
import Derived.Test.YtkobjjadojpjfaaPL7
namespace Go.Proofs.Ytkobjjadojpjfaa.Pure
open Go.RowKit Go.Proofs.Ytkobjjadojpjfaa.Pr Go.Proofs.YtkobjjadojpjfaaW.PrintWords Go.Proofs.YtkobjjadojpjfaaW.PrintLast
set_option linter.unusedSimpArgs false

theorem IsRace_same (a b c : Int) (l : List S27) (e f g : Int) : ∃ (K : Nat) (r : Bool), ∀ k, K ≤ k → spec_IsRace.f k a b c l e f g = some r ∧ impl_IsRace.f k a b c l e f g = some r := by
  refine ⟨100, goodR a b c l e f g, fun k hk => ⟨?_, isRace_eq a b c l e f g k hk⟩⟩
  unfold spec_IsRace.f
  rw [raGood_eq a b c l e f g k hk]
  rfl

attribute [local congr] bind_weak in
theorem FnExactIsRace : laws_FnExactIsRace.Pure := by
  intro a b c l e f g  wa wb wc hm hw we wf wg
  by_cases hlen : l.length ≤ 1048576
  case neg =>
    refine ⟨0, ?_⟩
    unfold laws_FnExactIsRace.f
    rw [szRace_eq a b c l e f g _ (by omega) (by omega) hm]
    simp only [Option.bind_some]
    rw [if_pos (by rw [if_neg (by omega)]; omega)]
  obtain ⟨K, r, hr⟩ := IsRace_same a b c (l.map conv) e f g
  obtain ⟨n, hn⟩ : ∃ n, n = 2097300 + K := ⟨_, rfl⟩
  have h0 := fun k hk => (hr k hk).1
  have h1 := fun k hk => (hr k hk).2
  refine ⟨n + 4, ?_⟩
  have hT := fun k hk => toRace_eq a b c l e f g hlen k hk
  have hE := fun k hk => eqRace_same a b c (l.map conv) e f g (by rw [List.length_map]; omega) k hk
  have hlm : (l.map conv).length = l.length := List.length_map ..
  have hz := szRace_eq a b c l e f g 1048576 (by omega) (by omega) hm
  have hz2 : ((if (l.length : Int) ≤ 1048576 then 1048576 - (l.length : Int) else -1) < 0) = False := eq_false (by rw [if_pos (by omega)]; omega)
  generalize l.map conv = L at *
  unfold laws_FnExactIsRace.f
  simp (disch := omega) only [↓reduceIte, hz, hz2, Option.bind_some, bne_self_eq_false, Bool.false_eq_true, decide_true, hT, h0, h1, hE]


end Go.Proofs.Ytkobjjadojpjfaa.Pure
