/- Proved here: the law FnExactHalfDone answers true at all that comes in; no other condition. -/
import Derived.Test.YtkobjjadojpjfaaSFnExactHalfDone
import Derived.Test.YtkobjjadojpjfaaPL11
namespace Go.Proofs.Ytkobjjadojpjfaa.Pure
open Go.RowKit Go.Proofs.Ytkobjjadojpjfaa.Pr Go.Proofs.YtkobjjadojpjfaaW.PrintWords Go.Proofs.YtkobjjadojpjfaaW.PrintLast
set_option linter.unusedSimpArgs false

theorem HalfDone_same (a b c : Int) (l : List S27) (s : Int) : ∃ (K : Nat) (r : Int × Bool), ∀ k, K ≤ k → spec_HalfDone.f k a b c l s = some r ∧ impl_HalfDone.f k a b c l s = some r :=
  firstDone_both a b c l s 2 (by omega) halfV halfV_asks

attribute [local congr] bind_weak in
theorem FnExactHalfDone : laws_FnExactHalfDone.Pure := by
  intro a b c l s wa wb wc hm hw w_s
  by_cases hlen : l.length ≤ 1048576
  case neg =>
    refine ⟨0, ?_⟩
    unfold laws_FnExactHalfDone.f
    rw [szBoard_eq a b c l _ (by omega) (by omega) hm]
    simp only [Option.bind_some]
    rw [if_pos (by rw [if_neg (by omega)]; omega)]
  obtain ⟨K, r, hr⟩ := HalfDone_same a b c (l.map conv) s
  obtain ⟨n, hn⟩ : ∃ n, n = 2097300 + K := ⟨_, rfl⟩
  have h0 := fun k hk => (hr k hk).1
  have h1 := fun k hk => (hr k hk).2
  refine ⟨n + 4, ?_⟩
  have hT := fun k hk => toBoard_eq a b c l hlen k hk
  have hE := fun k hk => eqBoard_same a b c (l.map conv) (by rw [List.length_map]; omega) k hk
  have hlm : (l.map conv).length = l.length := List.length_map ..
  have hz := szBoard_eq a b c l 1048576 (by omega) (by omega) hm
  have hz2 : ((if (l.length : Int) ≤ 1048576 then 1048576 - (l.length : Int) else -1) < 0) = False := eq_false (by rw [if_pos (by omega)]; omega)
  generalize l.map conv = L at *
  unfold laws_FnExactHalfDone.f
  simp (disch := omega) only [↓reduceIte, hz, hz2, Option.bind_some, bne_self_eq_false, Bool.false_eq_true, decide_true, laws_FnExactHalfDone.j0, hT, h0, h1, hE]


end Go.Proofs.Ytkobjjadojpjfaa.Pure
