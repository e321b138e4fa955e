/- Proved here: the law FnExactDoneTable answers true at all that comes in; no other condition. -/
import Derived.Test.YtkobjjadojpjfaaSFnExactDoneTable
import Derived.Test.YtkobjjadojpjfaaPL4
namespace Go.Proofs.Ytkobjjadojpjfaa.Pure
open Go.RowKit Go.Proofs.Ytkobjjadojpjfaa.Pr Go.Proofs.YtkobjjadojpjfaaW.PrintWords Go.Proofs.YtkobjjadojpjfaaW.PrintLast
set_option linter.unusedSimpArgs false

def doneL (a b c : Int) (l : List S27) (s : Int) : Nat → Nat → List Int
  | _, 0 => []
  | i, d + 1 => rd (placesR a b c l s i) a :: doneL a b c l s (i + 1) d

theorem doneL_length (a b c : Int) (l : List S27) (s : Int) : ∀ d i, (doneL a b c l s i d).length = d
  | 0, i => rfl
  | d + 1, i => by simp [doneL, doneL_length a b c l s d]

theorem spec_l0 {a b c : Int} {l : List S27} (B : Board a b c l) (s : Int) (hs0 : 0 ≤ s) (hs1 : s ≤ a) (n : Nat) (hn : n ≤ 20) : ∀ (d i k : Nat) (out : List Int), i + d = n + 1 → 30000 + d < k → out.length = i →
    spec_DoneTable.l0 k s (n : Int) out (i : Int) a b c l = some (out ++ doneL a b c l s i d, true)
  | 0, i, k, out, h1, h2, h3 => by
    obtain ⟨k, rfl⟩ : ∃ m, k = m + 1 := ⟨k - 1, by omega⟩
    simp only [spec_DoneTable.l0]
    rw [if_neg (by omega)]
    simp [doneL]
  | d + 1, i, k, out, h1, h2, h3 => by
    obtain ⟨k, rfl⟩ : ∃ m, k = m + 1 := ⟨k - 1, by omega⟩
    have := B.a1; have := B.a2
    have hl := (placesR_RowI B s hs0 hs1 i).len
    simp only [spec_DoneTable.l0]
    rw [if_pos (by omega), chPlaces_eq B s hs0 hs1 i (by omega) (by omega) k (by omega)]
    simp only [Option.bind_some, Int.toNat_natCast]
    rw [if_pos (by omega), if_pos (by rw [hl]; omega), if_pos (by omega), w64_succ (by omega), spec_l0 B s hs0 hs1 n hn d (i + 1) k _ (by omega) (by omega) (by simp [h3])]
    simp [doneL]

theorem impl_l0 {a b c : Int} {l : List S27} (B : Board a b c l) (s : Int) (hs0 : 0 ≤ s) (hs1 : s ≤ a) (n : Nat) (hn : n ≤ 20) : ∀ (d i k : Nat) (row out : List Int), i + d = n + 1 → 30000 + d < k → out.length = i → (0 < d → row = placesR a b c l s i) →
    impl_DoneTable.l0 k (n : Int) row out ((n : Int) + 1) (i : Int) a b c l = some (out ++ doneL a b c l s i d, true)
  | 0, i, k, row, out, h1, h2, h3, h4 => by
    obtain ⟨k, rfl⟩ : ∃ m, k = m + 1 := ⟨k - 1, by omega⟩
    simp only [impl_DoneTable.l0]
    rw [if_neg (by omega)]
    simp [doneL]
  | d + 1, i, k, row, out, h1, h2, h3, h4 => by
    obtain ⟨k, rfl⟩ : ∃ m, k = m + 1 := ⟨k - 1, by omega⟩
    have := B.a1; have := B.a2
    obtain rfl := h4 (by omega)
    have hR := placesR_RowI B s hs0 hs1 i
    have hl := hR.len
    simp only [impl_DoneTable.l0]
    rw [if_pos (by omega), if_pos (by omega), if_pos (by rw [hl]; omega), if_pos (by omega)]
    simp only [Option.bind_some]
    by_cases hi : (i : Int) < n
    · have hb : b * b ^ i ≤ 4611686018427387904 := by
        rcases row_next B (n := i) (by omega) with h | h
        · exact h
        · omega
      rw [if_pos hi, next_eq B _ _ hR hb k (by omega)]
      simp only [Option.bind_some]
      rw [w64_succ (by omega), impl_l0 B s hs0 hs1 n hn d (i + 1) k (nextR a b c l (placesR a b c l s i)) _ (by omega) (by omega) (by simp [h3]) (fun _ => rfl)]
      simp [doneL]
    · rw [if_neg hi, w64_succ (by omega), impl_l0 B s hs0 hs1 n hn d (i + 1) k _ _ (by omega) (by omega) (by simp [h3]) (fun h => by omega)]
      simp [doneL]

theorem DoneTable_same (a b c : Int) (l : List S27) (s n : Int) : ∃ (K : Nat) (r : List Int × Bool), r.1.length ≤ 1048576 ∧ ∀ k, K ≤ k → spec_DoneTable.f k a b c l s n = some r ∧ impl_DoneTable.f k a b c l s n = some r := by
  by_cases h : (good a b c l && sqr a l s && decide (0 ≤ n ∧ n ≤ 20)) = true
  · have h' := h
    simp only [Bool.and_eq_true, decide_eq_true_eq] at h'
    have B := Board.of_good h'.1.1
    have := B.a1; have := B.a2
    obtain ⟨s0, s1⟩ := sqr_le h'.1.2
    obtain ⟨n, rfl⟩ : ∃ m : Nat, n = (m : Int) := ⟨n.toNat, by omega⟩
    refine ⟨31000, (doneL a b c l s 0 (n + 1), true), by rw [doneL_length]; omega, fun k hk => ?_⟩
    unfold spec_DoneTable.f impl_DoneTable.f
    rw [chAsked_eq a b c l s n k (by omega), isThrown_eq a b c l n 20 _ k (by omega), one_square, h, startOf_eq B s s0 s1]
    simp only [Option.bind_some]
    have h1 := spec_l0 B s s0 s1 n (by omega) (n + 1) 0 k [] (by omega) (by omega) rfl
    have h2 := impl_l0 B s s0 s1 n (by omega) (n + 1) 0 k (startR a s) [] (by omega) (by omega) rfl (fun _ => rfl)
    rw [show ((0 : Nat) : Int) = 0 from rfl] at h1 h2
    rw [if_pos trivial, if_pos trivial, w64 ((n : Int) + 1) (by omega) (by omega), h1, h2]
    exact ⟨rfl, rfl⟩
  · refine ⟨100, ([], false), by simp, fun k hk => ?_⟩
    unfold spec_DoneTable.f impl_DoneTable.f
    rw [chAsked_eq a b c l s n k (by omega), isThrown_eq a b c l n 20 _ k (by omega), one_square]
    simp only [Option.bind_some]
    rw [if_neg h, if_neg h]
    exact ⟨rfl, rfl⟩

attribute [local congr] bind_weak in
theorem FnExactDoneTable : laws_FnExactDoneTable.Pure := by
  intro a b c l s n wa wb wc hm hw w_s w_n
  by_cases hlen : l.length ≤ 1048576
  case neg =>
    refine ⟨0, ?_⟩
    unfold laws_FnExactDoneTable.f
    rw [szBoard_eq a b c l _ (by omega) (by omega) hm]
    simp only [Option.bind_some]
    rw [if_pos (by rw [if_neg (by omega)]; omega)]
  obtain ⟨K, ⟨r, y⟩, hl0, hr⟩ := DoneTable_same a b c (l.map conv) s n
  have hl' : r.length ≤ 1048576 := hl0
  obtain ⟨n, hn⟩ : ∃ n, n = 2097300 + K := ⟨_, rfl⟩
  have h0 := fun k hk => (hr k hk).1
  have h1 := fun k hk => (hr k hk).2
  refine ⟨n + 4, ?_⟩
  have hT := fun k hk => toBoard_eq a b c l hlen k hk
  have hE := fun k hk => eqBoard_same a b c (l.map conv) (by rw [List.length_map]; omega) k hk
  have hlm : (l.map conv).length = l.length := List.length_map ..
  have hS := fun k hk => eqIntS_eq r r (by omega) k hk
  have hMB := fun k hk => markBoard_eq a b c (l.map conv) (by rw [List.length_map]; omega) k hk
  have hM := fun k hk => markIntS_eq r (by omega) k hk
  have hH := fun k hk => heldIntS_eq r.length (by omega) k hk
  have hn1 : (1 + (r.length : Int) < 0) = False := eq_false (by omega)
  have hn2 : (1 + 2 * ((l.map conv).length : Int) < 0) = False := eq_false (by omega)
  have hz := szBoard_eq a b c l 1048576 (by omega) (by omega) hm
  have hz2 : ((if (l.length : Int) ≤ 1048576 then 1048576 - (l.length : Int) else -1) < 0) = False := eq_false (by rw [if_pos (by omega)]; omega)
  generalize l.map conv = L at *
  unfold laws_FnExactDoneTable.f
  simp (disch := omega) only [↓reduceIte, hz, hz2, Option.bind_some, bne_self_eq_false, Bool.false_eq_true, decide_true, laws_FnExactDoneTable.j0, laws_FnExactDoneTable.j1, laws_FnExactDoneTable.j2, hT, h0, h1, hE, hS, hMB, hM, hH, hn1, hn2]


end Go.Proofs.Ytkobjjadojpjfaa.Pure
