/- Proved here: the law FnExactPathOfThrows answers true at all that comes in; no other condition. -/
import Derived.Test.YtkobjjadojpjfaaSFnExactPathOfThrows
import Derived.Test.YtkobjjadojpjfaaPL5
namespace Go.Proofs.Ytkobjjadojpjfaa.Pure
open Go.RowKit Go.Proofs.Ytkobjjadojpjfaa.Pr Go.Proofs.YtkobjjadojpjfaaW.PrintWords Go.Proofs.YtkobjjadojpjfaaW.PrintLast
set_option linter.unusedSimpArgs false

theorem PathOfThrows_same (a b c : Int) (l : List S27) (s : Int) (fs : List Int) : ∃ (K : Nat) (r : List Int × Bool), r.1.length ≤ 1048576 ∧ ∀ k, K ≤ k → spec_PathOfThrows.f k a b c l s fs = some r ∧ impl_PathOfThrows.f k a b c l s fs = some r := by
  refine ⟨300, if played a b c l s fs then (s :: pathL a c l s fs, true) else ([], false), ?_, fun k hk => ⟨?_, PathOfThrows_eq a b c l s fs k (by omega)⟩⟩
  · split
    · rename_i h
      have := played_len h
      simp [pathL_length]; omega
    · simp
  · unfold spec_PathOfThrows.f
    rw [sqThrows_eq a b c l s fs k (by omega)]
    simp only [Option.bind_some]
    by_cases h : played a b c l s fs = true
    · rw [if_pos h, if_pos h, sqPlay_eq h k (by omega)]
      rfl
    · rw [if_neg h, if_neg h]

attribute [local congr] bind_weak in
theorem FnExactPathOfThrows : laws_FnExactPathOfThrows.Pure := by
  intro a b c l s fs wa wb wc hm hw w_s m_fs w_fs
  by_cases hl_fs : fs.length ≤ 1048576
  case neg =>
    refine ⟨0, ?_⟩
    unfold laws_FnExactPathOfThrows.f
    simp (disch := omega) only [↓reduceIte, show (((fs.length : Int) > 1048576) = True) from eq_true (by omega)]
  by_cases hlen : l.length ≤ 1048576
  case neg =>
    refine ⟨0, ?_⟩
    unfold laws_FnExactPathOfThrows.f
    simp only [↓reduceIte, show (((fs.length : Int) > 1048576) = False) from eq_false (by omega)]
    rw [szBoard_eq a b c l _ (by omega) (by omega) hm]
    simp only [Option.bind_some]
    rw [if_pos (by rw [if_neg (by omega)]; omega)]
  obtain ⟨K, ⟨r, y⟩, hl0, hr⟩ := PathOfThrows_same a b c (l.map conv) s fs
  have hl' : r.length ≤ 1048576 := hl0
  obtain ⟨n, hn⟩ : ∃ n, n = 2097300 + K := ⟨_, rfl⟩
  have h0 := fun k hk => (hr k hk).1
  have h1 := fun k hk => (hr k hk).2
  refine ⟨n + 4, ?_⟩
  have hT := fun k hk => toBoard_eq a b c l hlen k hk
  have hE := fun k hk => eqBoard_same a b c (l.map conv) (by rw [List.length_map]; omega) k hk
  have hlm : (l.map conv).length = l.length := List.length_map ..
  have hS := fun k hk => eqIntS_eq r r (by omega) k hk
  have hMB := fun k hk => markBoard_eq a b c (l.map conv) (by rw [List.length_map]; omega) k hk
  have hM := fun k hk => markIntS_eq r (by omega) k hk
  have hH := fun k hk => heldIntS_eq r.length (by omega) k hk
  have hn1 : (1 + (r.length : Int) < 0) = False := eq_false (by omega)
  have hn2 : (1 + 2 * ((l.map conv).length : Int) < 0) = False := eq_false (by omega)
  have hT_fs := fun k hk => toIntS_eq fs hl_fs k hk
  have hE_fs := fun k hk => eqIntS_eq fs fs (by omega) k hk
  have hn_fs : ((fs.length : Int) > 1048576) = False := eq_false (by omega)
  have hMT_fs := fun k hk => markIntS_any fs (1 + 2 * ((l.map conv).length : Int)) (by omega) (by omega) (by omega) k hk
  have hn3_fs : (1 + 2 * ((l.map conv).length : Int) + (fs.length : Int) < 0) = False := eq_false (by omega)
  have hz := szBoard_eq a b c l 1048576 (by omega) (by omega) hm
  have hz2 : ((if (l.length : Int) ≤ 1048576 then 1048576 - (l.length : Int) else -1) < 0) = False := eq_false (by rw [if_pos (by omega)]; omega)
  generalize l.map conv = L at *
  unfold laws_FnExactPathOfThrows.f
  simp (disch := omega) only [↓reduceIte, hz, hz2, Option.bind_some, bne_self_eq_false, Bool.false_eq_true, decide_true, laws_FnExactPathOfThrows.j0, laws_FnExactPathOfThrows.j1, laws_FnExactPathOfThrows.j2, hT, h0, h1, hE, hS, hMB, hM, hH, hn1, hn2, hT_fs, hE_fs, hn_fs, hMT_fs, hn3_fs]


end Go.Proofs.Ytkobjjadojpjfaa.Pure
