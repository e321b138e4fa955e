/- Proved here: the law FnExactReachedFrom answers true at all that comes in; no other condition. -/
import Derived.Test.YtkobjjadojpjfaaSFnExactReachedFrom
import Derived.Test.YtkobjjadojpjfaaPL6
namespace Go.Proofs.Ytkobjjadojpjfaa.Pure
open Go.RowKit Go.Proofs.Ytkobjjadojpjfaa.Pr Go.Proofs.YtkobjjadojpjfaaW.PrintWords Go.Proofs.YtkobjjadojpjfaaW.PrintLast
set_option linter.unusedSimpArgs false

def trues : List Bool → Nat → List Int
  | [], _ => []
  | x :: xs, i => if x = true then (i : Int) :: trues xs (i + 1) else trues xs (i + 1)

theorem trues_length : ∀ (xs : List Bool) (i : Nat), (trues xs i).length ≤ xs.length
  | [], i => Nat.le_refl _
  | x :: xs, i => by
    unfold trues
    have := trues_length xs (i + 1)
    split <;> simp <;> omega

theorem spec_trues (row : List Bool) (hl : row.length ≤ 1000) : ∀ (d i k : Nat) (out : List Int), i + d = row.length → d < k → out.length ≤ i →
    spec_ReachedFrom.l0 k out row (row.length : Int) (i : Int) = some (out ++ trues (row.drop i) i, true)
  | 0, i, k, out, h1, h2, h4 => by
    obtain ⟨k, rfl⟩ : ∃ m, k = m + 1 := ⟨k - 1, by omega⟩
    simp only [spec_ReachedFrom.l0]
    rw [if_neg (by omega), List.drop_of_length_le (by omega)]
    simp [trues]
  | d + 1, i, k, out, h1, h2, h4 => by
    obtain ⟨k, rfl⟩ : ∃ m, k = m + 1 := ⟨k - 1, by omega⟩
    have hi : i < row.length := by omega
    simp only [spec_ReachedFrom.l0]
    rw [if_pos (nat_lt hi), if_pos (nat_nn i), if_pos (nat_lt hi), rdOf_at hi, w64_succ (by omega), List.drop_eq_getElem_cons hi, spec_trues row hl d (i + 1) k _ (by omega) (by omega) (by simp; omega), spec_trues row hl d (i + 1) k _ (by omega) (by omega) (by omega)]
    show _ = some (out ++ (if row[i] = true then _ else _), true)
    by_cases h : row[i] = true
    · rw [if_pos h, if_pos h, if_pos (by omega)]
      simp
    · rw [if_neg h, if_neg h]

theorem impl_trues (row : List Bool) (hl : row.length ≤ 1000) : ∀ (d i k : Nat) (out : List Int), i + d = row.length → d < k → out.length ≤ i →
    impl_placesOf.l0 k out row (row.length : Int) (i : Int) = some (out ++ trues (row.drop i) i)
  | 0, i, k, out, h1, h2, h4 => by
    obtain ⟨k, rfl⟩ : ∃ m, k = m + 1 := ⟨k - 1, by omega⟩
    simp only [impl_placesOf.l0]
    rw [if_neg (by omega), List.drop_of_length_le (by omega)]
    simp [trues]
  | d + 1, i, k, out, h1, h2, h4 => by
    obtain ⟨k, rfl⟩ : ∃ m, k = m + 1 := ⟨k - 1, by omega⟩
    have hi : i < row.length := by omega
    simp only [impl_placesOf.l0]
    rw [if_pos (nat_lt hi), if_pos (nat_nn i), if_pos (nat_lt hi), rdOf_at hi, w64_succ (by omega), List.drop_eq_getElem_cons hi, impl_trues row hl d (i + 1) k _ (by omega) (by omega) (by simp; omega), impl_trues row hl d (i + 1) k _ (by omega) (by omega) (by omega)]
    show _ = some (out ++ (if row[i] = true then _ else _))
    by_cases h : row[i] = true
    · rw [if_pos h, if_pos h, if_pos (by omega)]
      simp
    · rw [if_neg h, if_neg h]

theorem ReachedFrom_same (a b c : Int) (l : List S27) (s : Int) : ∃ (K : Nat) (r : List Int × Bool), r.1.length ≤ 1048576 ∧ ∀ k, K ≤ k → spec_ReachedFrom.f k a b c l s = some r ∧ impl_ReachedFrom.f k a b c l s = some r := by
  by_cases h : (good a b c l && sqr a l s) = true
  · have h' := h
    simp only [Bool.and_eq_true, decide_eq_true_eq] at h'
    have B := Board.of_good h'.1
    have := B.a1; have := B.a2
    obtain ⟨s0, s1⟩ := sqr_le h'.2
    obtain ⟨row, hl, hr⟩ := reached_eq B s s0 s1
    refine ⟨2000, (trues row 0, true), Nat.le_trans (trues_length row 0) (by omega), fun k hk => ?_⟩
    unfold spec_ReachedFrom.f impl_ReachedFrom.f impl_placesOf.f
    rw [sqAsked_eq a b c l s k (by omega), areSquares_eq a b c l _ k (by omega), one_square, h, (hr k (by omega)).1, (hr k (by omega)).2]
    simp only [Option.bind_some]
    have h1 := spec_trues row (by omega) row.length 0 k [] (by omega) (by omega) (by simp)
    have h2 := impl_trues row (by omega) row.length 0 k [] (by omega) (by omega) (by simp)
    rw [show ((0 : Nat) : Int) = 0 from rfl] at h1 h2
    rw [if_pos trivial, if_pos trivial, h1, h2]
    exact ⟨rfl, rfl⟩
  · refine ⟨100, ([], false), by simp, fun k hk => ?_⟩
    unfold spec_ReachedFrom.f impl_ReachedFrom.f
    rw [sqAsked_eq a b c l s k (by omega), areSquares_eq a b c l _ k (by omega), one_square]
    simp only [Option.bind_some]
    rw [if_neg h, if_neg h]
    exact ⟨rfl, rfl⟩

attribute [local congr] bind_weak in
theorem FnExactReachedFrom : laws_FnExactReachedFrom.Pure := by
  intro a b c l s wa wb wc hm hw w_s
  by_cases hlen : l.length ≤ 1048576
  case neg =>
    refine ⟨0, ?_⟩
    unfold laws_FnExactReachedFrom.f
    rw [szBoard_eq a b c l _ (by omega) (by omega) hm]
    simp only [Option.bind_some]
    rw [if_pos (by rw [if_neg (by omega)]; omega)]
  obtain ⟨K, ⟨r, y⟩, hl0, hr⟩ := ReachedFrom_same a b c (l.map conv) s
  have hl' : r.length ≤ 1048576 := hl0
  obtain ⟨n, hn⟩ : ∃ n, n = 2097300 + K := ⟨_, rfl⟩
  have h0 := fun k hk => (hr k hk).1
  have h1 := fun k hk => (hr k hk).2
  refine ⟨n + 4, ?_⟩
  have hT := fun k hk => toBoard_eq a b c l hlen k hk
  have hE := fun k hk => eqBoard_same a b c (l.map conv) (by rw [List.length_map]; omega) k hk
  have hlm : (l.map conv).length = l.length := List.length_map ..
  have hS := fun k hk => eqIntS_eq r r (by omega) k hk
  have hMB := fun k hk => markBoard_eq a b c (l.map conv) (by rw [List.length_map]; omega) k hk
  have hM := fun k hk => markIntS_eq r (by omega) k hk
  have hH := fun k hk => heldIntS_eq r.length (by omega) k hk
  have hn1 : (1 + (r.length : Int) < 0) = False := eq_false (by omega)
  have hn2 : (1 + 2 * ((l.map conv).length : Int) < 0) = False := eq_false (by omega)
  have hz := szBoard_eq a b c l 1048576 (by omega) (by omega) hm
  have hz2 : ((if (l.length : Int) ≤ 1048576 then 1048576 - (l.length : Int) else -1) < 0) = False := eq_false (by rw [if_pos (by omega)]; omega)
  generalize l.map conv = L at *
  unfold laws_FnExactReachedFrom.f
  simp (disch := omega) only [↓reduceIte, hz, hz2, Option.bind_some, bne_self_eq_false, Bool.false_eq_true, decide_true, laws_FnExactReachedFrom.j0, laws_FnExactReachedFrom.j1, laws_FnExactReachedFrom.j2, hT, h0, h1, hE, hS, hMB, hM, hH, hn1, hn2]


end Go.Proofs.Ytkobjjadojpjfaa.Pure
