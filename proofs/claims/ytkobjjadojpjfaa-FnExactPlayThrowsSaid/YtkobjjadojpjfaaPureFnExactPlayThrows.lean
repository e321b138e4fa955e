/- Proved here: the law FnExactPlayThrows answers true at all that comes in; no other condition. -/
import Derived.Test.YtkobjjadojpjfaaSFnExactPlayThrows
import Derived.Test.YtkobjjadojpjfaaPL5
namespace Go.Proofs.Ytkobjjadojpjfaa.Pure
open Go.RowKit Go.Proofs.Ytkobjjadojpjfaa.Pr Go.Proofs.YtkobjjadojpjfaaW.PrintWords Go.Proofs.YtkobjjadojpjfaaW.PrintLast
set_option linter.unusedSimpArgs false

theorem PlayThrows_same (a b c : Int) (l : List S27) (s : Int) (fs : List Int) : ∃ (K : Nat) (r : Int × Bool), ∀ k, K ≤ k → spec_PlayThrows.f k a b c l s fs = some r ∧ impl_PlayThrows.f k a b c l s fs = some r := by
  refine ⟨300, if played a b c l s fs then (rd (s :: pathL a c l s fs) (fs.length : Int), true) else (0, false), fun k hk => ?_⟩
  unfold spec_PlayThrows.f impl_PlayThrows.f
  rw [sqThrows_eq a b c l s fs k (by omega), PathOfThrows_eq a b c l s fs k (by omega)]
  simp only [Option.bind_some]
  by_cases h : played a b c l s fs = true
  · have h2 := played_len h
    rw [if_pos h, if_pos h, if_pos h, sqPlay_eq h k (by omega)]
    simp only [Option.bind_some]
    have e : (((s :: pathL a c l s fs).length : Nat) : Int) = (fs.length : Int) + 1 := by rw [List.length_cons, pathL_length]; rfl
    have e1 : (0 : Int) ≤ (fs.length : Int) := by omega
    have e2 : (fs.length : Int) < (fs.length : Int) + 1 := by omega
    have e3 : wrap64 ((fs.length : Int) + 1 - 1) = fs.length := by rw [w64 _ (by omega) (by omega)]; omega
    refine ⟨?_, ?_⟩
    · rw [e, if_pos e1, if_pos e2]
    · rw [e, e3, if_pos trivial, if_pos e1, if_pos e2]
  · rw [if_neg h, if_neg h, if_neg h]
    exact ⟨rfl, rfl⟩

attribute [local congr] bind_weak in
theorem FnExactPlayThrows : laws_FnExactPlayThrows.Pure := by
  intro a b c l s fs wa wb wc hm hw w_s m_fs w_fs
  by_cases hl_fs : fs.length ≤ 1048576
  case neg =>
    refine ⟨0, ?_⟩
    unfold laws_FnExactPlayThrows.f
    simp (disch := omega) only [↓reduceIte, show (((fs.length : Int) > 1048576) = True) from eq_true (by omega)]
  by_cases hlen : l.length ≤ 1048576
  case neg =>
    refine ⟨0, ?_⟩
    unfold laws_FnExactPlayThrows.f
    simp only [↓reduceIte, show (((fs.length : Int) > 1048576) = False) from eq_false (by omega)]
    rw [szBoard_eq a b c l _ (by omega) (by omega) hm]
    simp only [Option.bind_some]
    rw [if_pos (by rw [if_neg (by omega)]; omega)]
  obtain ⟨K, r, hr⟩ := PlayThrows_same a b c (l.map conv) s fs
  obtain ⟨n, hn⟩ : ∃ n, n = 2097300 + K := ⟨_, rfl⟩
  have h0 := fun k hk => (hr k hk).1
  have h1 := fun k hk => (hr k hk).2
  refine ⟨n + 4, ?_⟩
  have hT := fun k hk => toBoard_eq a b c l hlen k hk
  have hE := fun k hk => eqBoard_same a b c (l.map conv) (by rw [List.length_map]; omega) k hk
  have hlm : (l.map conv).length = l.length := List.length_map ..
  have hT_fs := fun k hk => toIntS_eq fs hl_fs k hk
  have hE_fs := fun k hk => eqIntS_eq fs fs (by omega) k hk
  have hn_fs : ((fs.length : Int) > 1048576) = False := eq_false (by omega)
  have hz := szBoard_eq a b c l 1048576 (by omega) (by omega) hm
  have hz2 : ((if (l.length : Int) ≤ 1048576 then 1048576 - (l.length : Int) else -1) < 0) = False := eq_false (by rw [if_pos (by omega)]; omega)
  generalize l.map conv = L at *
  unfold laws_FnExactPlayThrows.f
  simp (disch := omega) only [↓reduceIte, hz, hz2, Option.bind_some, bne_self_eq_false, Bool.false_eq_true, decide_true, laws_FnExactPlayThrows.j0, hT, h0, h1, hE, hT_fs, hE_fs, hn_fs]


end Go.Proofs.Ytkobjjadojpjfaa.Pure
