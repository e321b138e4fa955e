/- Proved here: the law FnExactHopelessSquares answers true at all that comes in; no other condition. -/
import Derived.Test.YtkobjjadojpjfaaSFnExactHopelessSquares
import Derived.Test.YtkobjjadojpjfaaPL10
import Derived.Test.YtkobjjadojpjfaaPL1M
namespace Go.Proofs.Ytkobjjadojpjfaa.Pure
open Go.RowKit Go.Proofs.Ytkobjjadojpjfaa.Pr Go.Proofs.YtkobjjadojpjfaaW.PrintWords Go.Proofs.YtkobjjadojpjfaaW.PrintLast
set_option linter.unusedSimpArgs false

def hopeL (a : Int) (l : List S27) (U : List Int) : Nat → Nat → List Int
  | _, 0 => []
  | i, d + 1 => if rd U (i : Int) < 0 ∧ sqr a l (i : Int) = true then (i : Int) :: hopeL a l U (i + 1) d else hopeL a l U (i + 1) d

theorem hopeL_length (a : Int) (l : List S27) (U : List Int) : ∀ d i, (hopeL a l U i d).length ≤ d
  | 0, i => Nat.le_refl _
  | d + 1, i => by
    have := hopeL_length a l U d (i + 1)
    unfold hopeL
    split <;> simp <;> omega

theorem spec_l0 {a b c : Int} {l : List S27} (B : Board a b c l) (U : List Int) (hl : U.length = (a + 1).toNat) : ∀ (d i k : Nat) (out : List Int), i + d = U.length → d + 30 < k → out.length ≤ i →
    spec_HopelessSquares.l0 k out U (U.length : Int) (i : Int) a b c l = some (out ++ hopeL a l U i d, true)
  | 0, i, k, out, h1, h2, h4 => by
    obtain ⟨k, rfl⟩ : ∃ m, k = m + 1 := ⟨k - 1, by omega⟩
    simp only [spec_HopelessSquares.l0]
    rw [if_neg (by omega)]
    simp [hopeL]
  | d + 1, i, k, out, h1, h2, h4 => by
    obtain ⟨k, rfl⟩ : ∃ m, k = m + 1 := ⟨k - 1, by omega⟩
    have := B.a2
    simp only [spec_HopelessSquares.l0]
    rw [if_pos (by omega), if_pos (nat_nn i), if_pos (by omega), w64_succ (by omega), sqSquare_eq B (i : Int) k (by omega)]
    simp only [Option.bind_some]
    unfold hopeL
    by_cases hn : rd U (i : Int) < 0
    · cases hs : sqr a l (i : Int) with
      | false => rw [if_pos hn, if_neg (by decide), if_neg (by simp), spec_l0 B U hl d (i + 1) k out (by omega) (by omega) (by omega)]
      | true => rw [if_pos hn, if_pos rfl, if_pos (by omega), if_pos ⟨hn, rfl⟩, spec_l0 B U hl d (i + 1) k _ (by omega) (by omega) (by simp; omega)]; simp
    · rw [if_neg hn, if_neg (fun h => hn h.1), spec_l0 B U hl d (i + 1) k out (by omega) (by omega) (by omega)]

theorem impl_l0 {a b c : Int} {l : List S27} (B : Board a b c l) (U : List Int) (hl : U.length = (a + 1).toNat) : ∀ (d i k : Nat) (out : List Int), i + d = U.length → d + 30 < k → out.length ≤ i →
    impl_HopelessSquares.l0 k out U (U.length : Int) (i : Int) a b c l = some (out ++ hopeL a l U i d, true)
  | 0, i, k, out, h1, h2, h4 => by
    obtain ⟨k, rfl⟩ : ∃ m, k = m + 1 := ⟨k - 1, by omega⟩
    simp only [impl_HopelessSquares.l0]
    rw [if_neg (by omega)]
    simp [hopeL]
  | d + 1, i, k, out, h1, h2, h4 => by
    obtain ⟨k, rfl⟩ : ∃ m, k = m + 1 := ⟨k - 1, by omega⟩
    have := B.a2
    simp only [impl_HopelessSquares.l0]
    rw [if_pos (by omega), if_pos (nat_nn i), if_pos (by omega), w64_succ (by omega), isSquare_eq B (i : Int) k (by omega)]
    simp only [Option.bind_some]
    unfold hopeL
    by_cases hn : rd U (i : Int) < 0
    · cases hs : sqr a l (i : Int) with
      | false => rw [if_pos hn, if_neg (by decide), if_neg (by simp), impl_l0 B U hl d (i + 1) k out (by omega) (by omega) (by omega)]
      | true => rw [if_pos hn, if_pos rfl, if_pos (by omega), if_pos ⟨hn, rfl⟩, impl_l0 B U hl d (i + 1) k _ (by omega) (by omega) (by simp; omega)]; simp
    · rw [if_neg hn, if_neg (fun h => hn h.1), impl_l0 B U hl d (i + 1) k out (by omega) (by omega) (by omega)]

theorem HopelessSquares_same (a b c : Int) (l : List S27) : ∃ (K : Nat) (r : List Int × Bool), r.1.length ≤ 1048576 ∧ ∀ k, K ≤ k → spec_HopelessSquares.f k a b c l = some r ∧ impl_HopelessSquares.f k a b c l = some r := by
  by_cases h : good a b c l = true
  · have B := Board.of_good h
    have := B.a1; have := B.a2
    obtain ⟨U, hU, hf⟩ := far_eq B
    have hl := hU.len
    refine ⟨700000, (hopeL a l U 0 U.length, true), by have := hopeL_length a l U U.length 0; show (hopeL a l U 0 U.length).length ≤ 1048576; omega, fun k hk => ?_⟩
    unfold spec_HopelessSquares.f impl_HopelessSquares.f
    rw [sqGood_eq a b c l k (by omega), isBoard_eq a b c l k (by omega), h, (hf k (by omega)).1, (hf k (by omega)).2]
    simp only [Option.bind_some]
    have h1 := spec_l0 B U hl U.length 0 k [] (by omega) (by omega) (by simp)
    have h2 := impl_l0 B U hl U.length 0 k [] (by omega) (by omega) (by simp)
    rw [show ((0 : Nat) : Int) = 0 from rfl] at h1 h2
    rw [if_pos trivial, if_pos trivial, h1, h2]
    exact ⟨rfl, rfl⟩
  · refine ⟨100, ([], false), by simp, fun k hk => ?_⟩
    unfold spec_HopelessSquares.f impl_HopelessSquares.f
    rw [sqGood_eq a b c l k (by omega), isBoard_eq a b c l k (by omega)]
    simp only [Option.bind_some]
    rw [if_neg h, if_neg h]
    exact ⟨rfl, rfl⟩

attribute [local congr] bind_weak in
theorem FnExactHopelessSquares : laws_FnExactHopelessSquares.Pure := by
  intro a b c l  wa wb wc hm hw
  by_cases hlen : l.length ≤ 1048576
  case neg =>
    refine ⟨0, ?_⟩
    unfold laws_FnExactHopelessSquares.f
    rw [szBoard_eq a b c l _ (by omega) (by omega) hm]
    simp only [Option.bind_some]
    rw [if_pos (by rw [if_neg (by omega)]; omega)]
  obtain ⟨K, ⟨r, y⟩, hl0, hr⟩ := HopelessSquares_same a b c (l.map conv)
  have hl' : r.length ≤ 1048576 := hl0
  obtain ⟨n, hn⟩ : ∃ n, n = 2097300 + K := ⟨_, rfl⟩
  have h0 := fun k hk => (hr k hk).1
  have h1 := fun k hk => (hr k hk).2
  refine ⟨n + 4, ?_⟩
  have hT := fun k hk => toBoard_eq a b c l hlen k hk
  have hE := fun k hk => eqBoard_same a b c (l.map conv) (by rw [List.length_map]; omega) k hk
  have hlm : (l.map conv).length = l.length := List.length_map ..
  have hS := fun k hk => eqIntS_eq r r (by omega) k hk
  have hMB := fun k hk => markBoard_eq a b c (l.map conv) (by rw [List.length_map]; omega) k hk
  have hM := fun k hk => markIntS_eq r (by omega) k hk
  have hH := fun k hk => heldIntS_eq r.length (by omega) k hk
  have hn1 : (1 + (r.length : Int) < 0) = False := eq_false (by omega)
  have hn2 : (1 + 2 * ((l.map conv).length : Int) < 0) = False := eq_false (by omega)
  have hz := szBoard_eq a b c l 1048576 (by omega) (by omega) hm
  have hz2 : ((if (l.length : Int) ≤ 1048576 then 1048576 - (l.length : Int) else -1) < 0) = False := eq_false (by rw [if_pos (by omega)]; omega)
  generalize l.map conv = L at *
  unfold laws_FnExactHopelessSquares.f
  simp (disch := omega) only [↓reduceIte, hz, hz2, Option.bind_some, bne_self_eq_false, Bool.false_eq_true, decide_true, laws_FnExactHopelessSquares.j0, laws_FnExactHopelessSquares.j1, laws_FnExactHopelessSquares.j2, hT, h0, h1, hE, hS, hMB, hM, hH, hn1, hn2]


end Go.Proofs.Ytkobjjadojpjfaa.Pure
