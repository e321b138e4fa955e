/- Proved here: the law FnExactTurnJumps answers true at all that comes in; no other condition. -/
import Derived.Test.YtkobjjadojpjfaaSFnExactTurnJumps
import Derived.Test.YtkobjjadojpjfaaPL12
import Derived.Test.YtkobjjadojpjfaaPL1H
namespace Go.Proofs.Ytkobjjadojpjfaa.Pure
open Go.RowKit Go.Proofs.Ytkobjjadojpjfaa.Pr Go.Proofs.YtkobjjadojpjfaaW.PrintWords Go.Proofs.YtkobjjadojpjfaaW.PrintLast
set_option linter.unusedSimpArgs false
set_option linter.unusedVariables false

def turnJ (x : S27) : S27 := ⟨x.f1, x.f0⟩

theorem spec_l0 (a b c : Int) (l : List S27) (hl : l.length ≤ 20) : ∀ (d i k : Nat) (acc : List S27), i + d = l.length → acc.length = i → 200 + d < k →
    spec_TurnJumps.l0 k l (l.length : Int) (i : Int) a b c acc = some (if good a b c (insAll acc ((l.drop i).map turnJ)) = true then (a, b, c, insAll acc ((l.drop i).map turnJ), true) else (0, 0, 0, [], false))
  | 0, i, k, acc, h1, h2, h3 => by
    obtain ⟨k, rfl⟩ : ∃ m, k = m + 1 := ⟨k - 1, by omega⟩
    simp only [spec_TurnJumps.l0]
    rw [if_neg (by omega), List.drop_of_length_le (by omega), sqGood_eq a b c acc k (by omega)]
    simp only [Option.bind_some, List.map_nil, insAll]
    split <;> rfl
  | d + 1, i, k, acc, h1, h2, h3 => by
    obtain ⟨k, rfl⟩ : ∃ m, k = m + 1 := ⟨k - 1, by omega⟩
    have hi : i < l.length := by omega
    simp only [spec_TurnJumps.l0]
    rw [if_pos (by omega), if_pos (nat_nn i), if_pos (by omega), rdJ_at hi, sqWith_eq a b c acc (by omega) _ _ k (by omega)]
    simp only [Option.bind_some]
    rw [w64_succ (by omega), spec_l0 a b c l hl d (i + 1) k _ (by omega) (by rw [insL_length]; omega) (by omega), List.drop_eq_getElem_cons hi]
    rfl

theorem impl_l0 (a b c : Int) (l : List S27) (hl : l.length ≤ 20) : ∀ (d i k : Nat) (acc : List S27), i + d = l.length → acc.length = i → 15000 + d < k →
    impl_TurnJumps.l0 k acc l (l.length : Int) (i : Int) a b c l = some (if good a b c (insAll [] (acc ++ (l.drop i).map turnJ)) = true then (a, b, c, insAll [] (acc ++ (l.drop i).map turnJ), true) else (0, 0, 0, [], false))
  | 0, i, k, acc, h1, h2, h3 => by
    obtain ⟨k, rfl⟩ : ∃ m, k = m + 1 := ⟨k - 1, by omega⟩
    simp only [impl_TurnJumps.l0, impl_checked.f]
    rw [if_neg (by omega), List.drop_of_length_le (by omega), with_eq a b c l acc (by omega) k (by omega)]
    simp only [Option.bind_some, List.map_nil, List.append_nil]
    rw [isBoard_eq a b c _ k (by omega)]
    simp only [Option.bind_some]
    split <;> rfl
  | d + 1, i, k, acc, h1, h2, h3 => by
    obtain ⟨k, rfl⟩ : ∃ m, k = m + 1 := ⟨k - 1, by omega⟩
    have hi : i < l.length := by omega
    simp only [impl_TurnJumps.l0]
    rw [if_pos (by omega), if_pos (nat_nn i), if_pos (by omega), rdJ_at hi, if_pos (by omega), w64_succ (by omega), impl_l0 a b c l hl d (i + 1) k _ (by omega) (by simp; omega) (by omega), show (l.drop i).map turnJ = turnJ l[i] :: (l.drop (i + 1)).map turnJ by rw [List.drop_eq_getElem_cons hi]; rfl, List.append_assoc, List.singleton_append]
    rfl

theorem TurnJumps_same (a b c : Int) (l : List S27) (hl0 : l.length ≤ 1048576) : ∃ (K : Nat) (r : Int × Int × Int × (List S27) × Bool), r.2.2.2.1.length ≤ 1048576 ∧ ∀ k, K ≤ k → spec_TurnJumps.f k a b c l = some r ∧ impl_TurnJumps.f k a b c l = some r := by
  by_cases h : good a b c l = true
  · have B := Board.of_good h
    have hl := B.len
    refine ⟨16000, if good a b c (insAll [] (l.map turnJ)) = true then (a, b, c, insAll [] (l.map turnJ), true) else (0, 0, 0, [], false), ?_, fun k hk => ?_⟩
    · split
      · show (insAll [] (l.map turnJ)).length ≤ 1048576
        rw [insAll_length, List.length_map]
        simp
        omega
      · simp
    · unfold spec_TurnJumps.f impl_TurnJumps.f
      rw [sqGood_eq a b c l k (by omega), isBoard_eq a b c l k (by omega), h]
      simp only [Option.bind_some]
      have h1 := spec_l0 a b c l hl l.length 0 k [] (by omega) rfl (by omega)
      have h2 := impl_l0 a b c l hl l.length 0 k [] (by omega) rfl (by omega)
      rw [show ((0 : Nat) : Int) = 0 from rfl, List.drop_zero] at h1 h2
      rw [List.nil_append] at h2
      rw [if_pos trivial, if_pos trivial, h1, h2]
      exact ⟨rfl, rfl⟩
  · refine ⟨100, (0, 0, 0, [], false), by simp, fun k hk => ?_⟩
    unfold spec_TurnJumps.f impl_TurnJumps.f
    rw [sqGood_eq a b c l k (by omega), isBoard_eq a b c l k (by omega)]
    simp only [Option.bind_some]
    rw [if_neg h, if_neg h]
    exact ⟨rfl, rfl⟩

attribute [local congr] bind_weak in
theorem FnExactTurnJumps : laws_FnExactTurnJumps.Pure := by
  intro a b c l  wa wb wc hm hw
  by_cases hlen : l.length ≤ 1048576
  case neg =>
    refine ⟨0, ?_⟩
    unfold laws_FnExactTurnJumps.f
    rw [szBoard_eq a b c l _ (by omega) (by omega) hm]
    simp only [Option.bind_some]
    rw [if_pos (by rw [if_neg (by omega)]; omega)]
  obtain ⟨K, ⟨ra, rb, rc, r, y⟩, hl0, hr⟩ := TurnJumps_same a b c (l.map conv) (by rw [List.length_map]; omega)
  have hl' : r.length ≤ 1048576 := hl0
  obtain ⟨n, hn⟩ : ∃ n, n = 2097300 + K := ⟨_, rfl⟩
  have h0 := fun k hk => (hr k hk).1
  have h1 := fun k hk => (hr k hk).2
  refine ⟨n + 4, ?_⟩
  have hT := fun k hk => toBoard_eq a b c l hlen k hk
  have hE := fun k hk => eqBoard_same a b c (l.map conv) (by rw [List.length_map]; omega) k hk
  have hlm : (l.map conv).length = l.length := List.length_map ..
  have hS := fun k hk => eqBoard_same ra rb rc r (by omega) k hk
  have hMB := fun k hk => markBoard_eq a b c (l.map conv) (by rw [List.length_map]; omega) k hk
  have hM := fun k hk => markBoard_eq ra rb rc r (by omega) k hk
  have hH := fun k hk => heldBoard_eq ra rb rc r.length (by omega) k hk
  have hn1 : (1 + 2 * (r.length : Int) < 0) = False := eq_false (by omega)
  have hn2 : (1 + 2 * ((l.map conv).length : Int) < 0) = False := eq_false (by omega)
  have hz := szBoard_eq a b c l 1048576 (by omega) (by omega) hm
  have hz2 : ((if (l.length : Int) ≤ 1048576 then 1048576 - (l.length : Int) else -1) < 0) = False := eq_false (by rw [if_pos (by omega)]; omega)
  generalize l.map conv = L at *
  unfold laws_FnExactTurnJumps.f
  simp (disch := omega) only [↓reduceIte, hz, hz2, Option.bind_some, bne_self_eq_false, Bool.false_eq_true, decide_true, laws_FnExactTurnJumps.j0, laws_FnExactTurnJumps.j1, laws_FnExactTurnJumps.j2, hT, h0, h1, hE, hS, hMB, hM, hH, hn1, hn2]


end Go.Proofs.Ytkobjjadojpjfaa.Pure
