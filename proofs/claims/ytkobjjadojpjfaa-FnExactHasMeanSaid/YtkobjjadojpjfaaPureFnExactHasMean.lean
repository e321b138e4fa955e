/- Proved here: the law FnExactHasMean answers true at all that comes in; no other condition. -/
import Derived.Test.YtkobjjadojpjfaaSFnExactHasMean
import Derived.Test.YtkobjjadojpjfaaPL10
import Derived.Test.YtkobjjadojpjfaaPL6
namespace Go.Proofs.Ytkobjjadojpjfaa.Pure
open Go.RowKit Go.Proofs.Ytkobjjadojpjfaa.Pr Go.Proofs.YtkobjjadojpjfaaW.PrintWords Go.Proofs.YtkobjjadojpjfaaW.PrintLast
set_option linter.unusedSimpArgs false

theorem mean_l0 (U : List Int) (row : List Bool) (hl : U.length = row.length) (hs : row.length ≤ 1000) : ∀ (d i : Nat), i + d = row.length → ∃ r, ∀ k, d < k → spec_meHas.l0 k U row (row.length : Int) (i : Int) = some r ∧ impl_Board_hasMean.l0 k U row (row.length : Int) (i : Int) = some r
  | 0, i, h1 => by
    refine ⟨true, fun k hk => ?_⟩
    obtain ⟨k, rfl⟩ : ∃ m, k = m + 1 := ⟨k - 1, by omega⟩
    simp only [spec_meHas.l0, impl_Board_hasMean.l0]
    rw [if_neg (by omega), if_neg (by omega)]
    exact ⟨rfl, rfl⟩
  | d + 1, i, h1 => by
    obtain ⟨r, hr⟩ := mean_l0 U row hl hs d (i + 1) (by omega)
    refine ⟨if rdOf false row (i : Int) = true ∧ rd U (i : Int) < 0 then false else r, fun k hk => ?_⟩
    obtain ⟨k, rfl⟩ : ∃ m, k = m + 1 := ⟨k - 1, by omega⟩
    simp only [spec_meHas.l0, impl_Board_hasMean.l0]
    have q1 : (i : Int) < (row.length : Int) := by omega
    have q2 : (i : Int) < (U.length : Int) := by omega
    by_cases h : rdOf false row (i : Int) = true
    · by_cases h2 : rd U (i : Int) < 0
      · rw [if_pos (show rdOf false row (i : Int) = true ∧ rd U (i : Int) < 0 from ⟨h, h2⟩)]
        refine ⟨?_, ?_⟩ <;> rw [if_pos q1, if_pos (nat_nn i), if_pos q1, if_pos h, if_pos q2, if_pos h2]
      · rw [if_neg (show ¬ (rdOf false row (i : Int) = true ∧ rd U (i : Int) < 0) from fun x => h2 x.2)]
        refine ⟨?_, ?_⟩ <;> rw [if_pos q1, if_pos (nat_nn i), if_pos q1, if_pos h, if_pos q2, if_neg h2, w64_succ (by omega)]
        · exact (hr k (by omega)).1
        · exact (hr k (by omega)).2
    · rw [if_neg (show ¬ (rdOf false row (i : Int) = true ∧ rd U (i : Int) < 0) from fun x => h x.1)]
      refine ⟨?_, ?_⟩ <;> rw [if_pos q1, if_pos (nat_nn i), if_pos q1, if_neg h, w64_succ (by omega)]
      · exact (hr k (by omega)).1
      · exact (hr k (by omega)).2

theorem HasMean_same (a b c : Int) (l : List S27) (s : Int) : ∃ (K : Nat) (r : Bool × Bool), ∀ k, K ≤ k → spec_HasMean.f k a b c l s = some r ∧ impl_HasMean.f k a b c l s = some r := by
  by_cases h : (good a b c l && (decide (a ≤ 9) && sqr a l s)) = true
  · have h' := h
    simp only [Bool.and_eq_true, decide_eq_true_eq] at h'
    have B := Board.of_good h'.1
    have := B.a1; have := B.a2
    obtain ⟨s0, s1⟩ := sqr_le h'.2.2
    obtain ⟨U, hU, hf⟩ := far_eq B
    obtain ⟨row, hrl, hr⟩ := reached_eq B s s0 s1
    have hl := hU.len
    obtain ⟨m, hm⟩ := mean_l0 U row (by omega) (by omega) row.length 0 (by omega)
    refine ⟨700000, (m, true), fun k hk => ?_⟩
    have h1 := (hm k (by omega)).1
    have h2 := (hm k (by omega)).2
    rw [show ((0 : Nat) : Int) = 0 from rfl] at h1 h2
    unfold spec_HasMean.f impl_HasMean.f spec_meAsked.f spec_meBoard.f spec_meHas.f impl_isMean.f impl_Board_hasMean.f
    rw [sqGood_eq a b c l k (by omega), areSquares_eq a b c l _ k (by omega), one_square, h'.1, h'.2.2, sqSquare_eq B s k (by omega), h'.2.2, (hf k (by omega)).1, (hf k (by omega)).2, (hr k (by omega)).1, (hr k (by omega)).2]
    simp only [Option.bind_some, decide_eq_true h'.2.1, if_true, Bool.and_self, h1, h2]
    first | done | exact ⟨trivial, trivial⟩ | exact ⟨rfl, rfl⟩
  · refine ⟨100, (false, false), fun k hk => ?_⟩
    unfold spec_HasMean.f impl_HasMean.f spec_meAsked.f spec_meBoard.f impl_isMean.f
    rw [sqGood_eq a b c l k (by omega), areSquares_eq a b c l _ k (by omega), one_square]
    simp only [Option.bind_some]
    cases hg : good a b c l with
    | false => simp
    | true =>
      rw [sqSquare_eq (Board.of_good hg) s k (by omega)]
      rw [hg, Bool.true_and] at h
      cases hs : sqr a l s with
      | false => by_cases h9 : a ≤ 9 <;> simp [h9]
      | true =>
        rw [hs, Bool.and_true, decide_eq_true_eq] at h
        simp [h]

attribute [local congr] bind_weak in
theorem FnExactHasMean : laws_FnExactHasMean.Pure := by
  intro a b c l s wa wb wc hm hw w_s
  by_cases hlen : l.length ≤ 1048576
  case neg =>
    refine ⟨0, ?_⟩
    unfold laws_FnExactHasMean.f
    rw [szBoard_eq a b c l _ (by omega) (by omega) hm]
    simp only [Option.bind_some]
    rw [if_pos (by rw [if_neg (by omega)]; omega)]
  obtain ⟨K, r, hr⟩ := HasMean_same a b c (l.map conv) s
  obtain ⟨n, hn⟩ : ∃ n, n = 2097300 + K := ⟨_, rfl⟩
  have h0 := fun k hk => (hr k hk).1
  have h1 := fun k hk => (hr k hk).2
  refine ⟨n + 4, ?_⟩
  have hT := fun k hk => toBoard_eq a b c l hlen k hk
  have hE := fun k hk => eqBoard_same a b c (l.map conv) (by rw [List.length_map]; omega) k hk
  have hlm : (l.map conv).length = l.length := List.length_map ..
  have hz := szBoard_eq a b c l 1048576 (by omega) (by omega) hm
  have hz2 : ((if (l.length : Int) ≤ 1048576 then 1048576 - (l.length : Int) else -1) < 0) = False := eq_false (by rw [if_pos (by omega)]; omega)
  generalize l.map conv = L at *
  unfold laws_FnExactHasMean.f
  simp (disch := omega) only [↓reduceIte, hz, hz2, Option.bind_some, bne_self_eq_false, Bool.false_eq_true, decide_true, laws_FnExactHasMean.j0, hT, h0, h1, hE]


end Go.Proofs.Ytkobjjadojpjfaa.Pure
