/- Proved here: the law FnExactLikeliestAt answers true at all that comes in; no other condition. -/
import Derived.Test.YtkobjjadojpjfaaSFnExactLikeliestAt
import Derived.Test.YtkobjjadojpjfaaPL4
import Derived.Test.YtkobjjadojpjfaaHMax
namespace Go.Proofs.Ytkobjjadojpjfaa.Pure
open Go.RowKit Go.Proofs.Ytkobjjadojpjfaa.Pr Go.Proofs.YtkobjjadojpjfaaW.PrintWords Go.Proofs.YtkobjjadojpjfaaW.PrintLast
set_option linter.unusedSimpArgs false

/-- the places from i on at which v stands -/
def at_ (v : Int) : List Int → Nat → List Int
  | [], _ => []
  | x :: xs, i => if x = v then (i : Int) :: at_ v xs (i + 1) else at_ v xs (i + 1)

def best (m : Int) : List Int → Int
  | [] => m
  | x :: xs => best (if x > m then x else m) xs

theorem best_le : ∀ (xs : List Int) (m : Int), m ≤ best m xs ∧ ∀ x ∈ xs, x ≤ best m xs
  | [], m => ⟨Int.le_refl _, fun x hx => by simp at hx⟩
  | x :: xs, m => by
    obtain ⟨h1, h2⟩ := best_le xs (if x > m then x else m)
    refine ⟨Int.le_trans (by split <;> omega) h1, fun y hy => ?_⟩
    rcases List.mem_cons.mp hy with rfl | hy
    · exact Int.le_trans (by split <;> omega) h1
    · exact h2 y hy

theorem best_mem : ∀ (xs : List Int) (m : Int), best m xs = m ∨ best m xs ∈ xs
  | [], m => .inl rfl
  | x :: xs, m => by
    unfold best
    rcases best_mem xs (if x > m then x else m) with h | h
    · rw [h]
      split
      · exact .inr (List.mem_cons_self ..)
      · exact .inl rfl
    · exact .inr (List.mem_cons_of_mem _ h)

theorem at_length (v : Int) : ∀ (xs : List Int) (i : Nat), (at_ v xs i).length ≤ xs.length
  | [], i => Nat.le_refl _
  | x :: xs, i => by
    unfold at_
    have := at_length v xs (i + 1)
    split <;> simp <;> omega

theorem spec_loop (row : List Int) (hl : row.length ≤ 1000) : ∀ (d i k : Nat) (m : Int) (out : List Int), i + d = row.length → d < k → 0 ≤ m → out.length ≤ i →
    spec_LikeliestAt.l0 k m out row (row.length : Int) (i : Int) = some (if best m (row.drop i) > m then at_ (best m (row.drop i)) (row.drop i) i else if m > 0 then out ++ at_ m (row.drop i) i else out, true)
  | 0, i, k, m, out, h1, h2, h3, h4 => by
    obtain ⟨k, rfl⟩ : ∃ m, k = m + 1 := ⟨k - 1, by omega⟩
    simp only [spec_LikeliestAt.l0]
    rw [if_neg (by omega), List.drop_of_length_le (by omega)]
    simp [best, at_]
  | d + 1, i, k, m, out, h1, h2, h3, h4 => by
    obtain ⟨k, rfl⟩ : ∃ m, k = m + 1 := ⟨k - 1, by omega⟩
    have hi : i < row.length := by omega
    have ih := fun m out h3 h4 => spec_loop row hl d (i + 1) k m out (by omega) (by omega) h3 h4
    have hb := fun m => (best_le (row.drop (i + 1)) m).1
    have hd := List.drop_eq_getElem_cons hi
    simp only [spec_LikeliestAt.l0]
    rw [if_pos (nat_lt hi), if_pos (nat_nn i), if_pos (nat_lt hi), rd_at hi, w64_succ (by omega), hd]
    generalize row[i] = v
    generalize hR : row.drop (i + 1) = R at *
    have hat : ∀ u, at_ u (v :: R) i = if v = u then (i : Int) :: at_ u R (i + 1) else at_ u R (i + 1) := fun u => rfl
    have hbe : best m (v :: R) = best (if v > m then v else m) R := rfl
    rw [hbe]
    by_cases c1 : v > m
    · rw [if_pos c1, if_pos c1, if_pos (by omega), if_pos (by decide), ih v _ (by omega) (by simp), hat]
      have := hb v
      by_cases c2 : best v R > v
      · rw [if_pos c2, if_pos (by omega), if_neg (by omega)]
      · have e : best v R = v := by omega
        rw [if_neg c2, if_pos (by omega), e, if_pos c1, if_pos rfl]
        rfl
    · rw [if_neg c1, if_neg c1]
      have := hb m
      by_cases c3 : v = m
      · rw [if_pos c3]
        by_cases c4 : v > 0
        · rw [if_pos c4, if_pos (by omega), ih m _ h3 (by simp; omega), hat, hat]
          by_cases c2 : best m R > m
          · rw [if_pos c2, if_pos c2, if_neg (by omega)]
          · rw [if_neg c2, if_neg c2, if_pos (by omega), if_pos (by omega), if_pos c3]
            simp
        · rw [if_neg c4, ih m _ h3 (by omega), hat, hat]
          by_cases c2 : best m R > m
          · rw [if_pos c2, if_pos c2, if_neg (by omega)]
          · rw [if_neg c2, if_neg c2, if_neg (by omega), if_neg (by omega)]
      · rw [if_neg c3, ih m _ h3 (by omega), hat, hat]
        by_cases c2 : best m R > m
        · rw [if_pos c2, if_pos c2, if_neg (by omega)]
        · rw [if_neg c2, if_neg c2, if_neg c3]

theorem impl_loop (row : List Int) (v : Int) (hl : row.length ≤ 1000) : ∀ (d i k : Nat) (out : List Int), i + d = row.length → d < k → out.length ≤ i →
    impl_LikeliestAt.l0 k out v row (row.length : Int) (i : Int) = some (out ++ at_ v (row.drop i) i, true)
  | 0, i, k, out, h1, h2, h4 => by
    obtain ⟨k, rfl⟩ : ∃ m, k = m + 1 := ⟨k - 1, by omega⟩
    simp only [impl_LikeliestAt.l0]
    rw [if_neg (by omega), List.drop_of_length_le (by omega)]
    simp [at_]
  | d + 1, i, k, out, h1, h2, h4 => by
    obtain ⟨k, rfl⟩ : ∃ m, k = m + 1 := ⟨k - 1, by omega⟩
    have hi : i < row.length := by omega
    simp only [impl_LikeliestAt.l0]
    rw [if_pos (nat_lt hi), if_pos (nat_nn i), if_pos (nat_lt hi), rd_at hi, w64_succ (by omega), List.drop_eq_getElem_cons hi, impl_loop row v hl d (i + 1) k _ (by omega) (by omega) (by simp; omega), impl_loop row v hl d (i + 1) k _ (by omega) (by omega) (by omega)]
    show _ = some (out ++ (if row[i] = v then _ else _), true)
    by_cases h : row[i] = v
    · rw [if_pos h, if_pos h, if_pos (by omega)]
      simp
    · rw [if_neg h, if_neg h]

theorem maxFrom_spec (row : List Int) : ∀ (d : Nat) (m : Int), d ≤ row.length → (maxFrom row d m = m ∨ maxFrom row d m ∈ row) ∧ m ≤ maxFrom row d m ∧ ∀ j, row.length - d ≤ j → (h : j < row.length) → row[j] ≤ maxFrom row d m
  | 0, m, h => ⟨.inl rfl, Int.le_refl _, fun j h1 h2 => by omega⟩
  | d + 1, m, h => by
    obtain ⟨h1, h2, h3⟩ := maxFrom_spec row d (mx m (rd row ((row.length - (d + 1) : Nat) : Int))) (by omega)
    have hi : row.length - (d + 1) < row.length := by omega
    rw [rd_at hi] at h1 h2 h3
    have hm : ∀ x y : Int, mx x y = x ∨ mx x y = y := fun x y => by unfold mx; split <;> simp
    have hm2 : ∀ x y : Int, x ≤ mx x y ∧ y ≤ mx x y := fun x y => by unfold mx; split <;> omega
    have e : maxFrom row (d + 1) m = maxFrom row d (mx m row[row.length - (d + 1)]) := by
      show maxFrom row d (mx m (rd row ((row.length - (d + 1) : Nat) : Int))) = _
      rw [rd_at hi]
    rw [e]
    have := hm2 m row[row.length - (d + 1)]
    refine ⟨?_, by omega, fun j h4 h5 => ?_⟩
    · rcases h1 with h1 | h1
      · rcases hm m row[row.length - (d + 1)] with h6 | h6
        · left; rw [h1, h6]
        · right; rw [h1, h6]; exact List.getElem_mem hi
      · exact .inr h1
    · by_cases hj : j = row.length - (d + 1)
      · subst hj; omega
      · exact h3 j (by omega) h5

theorem tot_pos : ∀ (row : List Int), 0 < tot row → ∃ x ∈ row, 0 < x
  | [], h => by have : (0 : Int) < 0 := h; omega
  | x :: xs, h => by
    have h' : 0 < x + tot xs := h
    by_cases hx : 0 < x
    · exact ⟨x, List.mem_cons_self .., hx⟩
    · obtain ⟨y, hy, h0⟩ := tot_pos xs (by omega)
      exact ⟨y, List.mem_cons_of_mem _ hy, h0⟩

theorem likeliest {row : List Int} (ht : 0 < tot row) (hl : row.length ≤ 1000) (k : Nat) (hk : 2000 ≤ k) : spec_LikeliestAt.l0 k 0 [] row (row.length : Int) 0 = some (at_ (best 0 row) row 0, true) ∧ ∃ v, slices_Max_int_int.f row = some v ∧ impl_LikeliestAt.l0 k [] v row (row.length : Int) 0 = some (at_ (best 0 row) row 0, true) := by
  obtain ⟨x, hx, x0⟩ := tot_pos row ht
  have hp : 0 < row.length := List.length_pos_of_mem hx
  obtain ⟨b1, b2⟩ := best_le row 0
  have b3 := b2 x hx
  have h1 := spec_loop row hl row.length 0 k 0 [] (by omega) (by omega) (by omega) (by simp)
  rw [List.drop_zero, if_pos (by omega)] at h1
  refine ⟨h1, _, by unfold slices_Max_int_int.f; rw [if_pos hp], ?_⟩
  have h2 := impl_loop row (maxFrom row (row.length - 1) (rd row 0)) hl row.length 0 k [] (by omega) (by omega) (by simp)
  rw [List.drop_zero, List.nil_append] at h2
  have e : maxFrom row (row.length - 1) (rd row 0) = best 0 row := by
    have e0 : rd row 0 = row[0] := rd_at hp
    obtain ⟨m1, m2, m3⟩ := maxFrom_spec row (row.length - 1) (rd row 0) (by omega)
    have m4 : ∀ y ∈ row, y ≤ maxFrom row (row.length - 1) (rd row 0) := fun y hy => by
      obtain ⟨j, hj, rfl⟩ := List.getElem_of_mem hy
      by_cases j0 : j = 0
      · subst j0; rw [← e0]; exact m2
      · exact m3 j (by omega) hj
    have m5 : maxFrom row (row.length - 1) (rd row 0) ∈ row := by
      rcases m1 with h | h
      · rw [h, e0]; exact List.getElem_mem hp
      · exact h
    have := b2 _ m5
    rcases best_mem row 0 with h | h
    · omega
    · have := m4 _ h
      omega
  rw [e] at h2 ⊢
  exact h2

theorem LikeliestAt_same (a b c : Int) (l : List S27) (s n : Int) : ∃ (K : Nat) (r : List Int × Bool), r.1.length ≤ 1048576 ∧ ∀ k, K ≤ k → spec_LikeliestAt.f k a b c l s n = some r ∧ impl_LikeliestAt.f k a b c l s n = some r := by
  by_cases h : (good a b c l && sqr a l s && decide (0 ≤ n ∧ n ≤ 20)) = true
  · have h' := h
    simp only [Bool.and_eq_true, decide_eq_true_eq] at h'
    have B := Board.of_good h'.1.1
    have := B.a1; have := B.a2
    obtain ⟨s0, s1⟩ := sqr_le h'.1.2
    have hR := placesR_RowI B s s0 s1 n.toNat
    have hl := hR.len
    have hp := (pow_le B.b1 B.b2 n.toNat).1
    have hat := at_length (best 0 (placesR a b c l s n.toNat)) (placesR a b c l s n.toNat) 0
    refine ⟨30000, (at_ (best 0 (placesR a b c l s n.toNat)) (placesR a b c l s n.toNat) 0, true), Nat.le_trans hat (by omega), fun k hk => ?_⟩
    unfold spec_LikeliestAt.f impl_LikeliestAt.f
    rw [chAsked_eq a b c l s n k (by omega), isThrown_eq a b c l n 20 _ k (by omega), one_square, h, places_eq B s s0 s1 n h'.2.1 h'.2.2 k (by omega), chPlaces_eq B s s0 s1 n h'.2.1 h'.2.2 k (by omega)]
    simp only [Option.bind_some]
    rw [if_pos trivial, if_pos trivial]
    obtain ⟨h1, v, h2, h3⟩ := likeliest (row := placesR a b c l s n.toNat) (by rw [hR.sum]; omega) (by omega) k (by omega)
    rw [h2]
    exact ⟨h1, h3⟩
  · refine ⟨100, ([], false), by simp, fun k hk => ?_⟩
    unfold spec_LikeliestAt.f impl_LikeliestAt.f
    rw [chAsked_eq a b c l s n k (by omega), isThrown_eq a b c l n 20 _ k (by omega), one_square]
    simp only [Option.bind_some]
    rw [if_neg h, if_neg h]
    exact ⟨rfl, rfl⟩

attribute [local congr] bind_weak in
theorem FnExactLikeliestAt : laws_FnExactLikeliestAt.Pure := by
  intro a b c l s n wa wb wc hm hw w_s w_n
  by_cases hlen : l.length ≤ 1048576
  case neg =>
    refine ⟨0, ?_⟩
    unfold laws_FnExactLikeliestAt.f
    rw [szBoard_eq a b c l _ (by omega) (by omega) hm]
    simp only [Option.bind_some]
    rw [if_pos (by rw [if_neg (by omega)]; omega)]
  obtain ⟨K, ⟨r, y⟩, hl0, hr⟩ := LikeliestAt_same a b c (l.map conv) s n
  have hl' : r.length ≤ 1048576 := hl0
  obtain ⟨n, hn⟩ : ∃ n, n = 2097300 + K := ⟨_, rfl⟩
  have h0 := fun k hk => (hr k hk).1
  have h1 := fun k hk => (hr k hk).2
  refine ⟨n + 4, ?_⟩
  have hT := fun k hk => toBoard_eq a b c l hlen k hk
  have hE := fun k hk => eqBoard_same a b c (l.map conv) (by rw [List.length_map]; omega) k hk
  have hlm : (l.map conv).length = l.length := List.length_map ..
  have hS := fun k hk => eqIntS_eq r r (by omega) k hk
  have hMB := fun k hk => markBoard_eq a b c (l.map conv) (by rw [List.length_map]; omega) k hk
  have hM := fun k hk => markIntS_eq r (by omega) k hk
  have hH := fun k hk => heldIntS_eq r.length (by omega) k hk
  have hn1 : (1 + (r.length : Int) < 0) = False := eq_false (by omega)
  have hn2 : (1 + 2 * ((l.map conv).length : Int) < 0) = False := eq_false (by omega)
  have hz := szBoard_eq a b c l 1048576 (by omega) (by omega) hm
  have hz2 : ((if (l.length : Int) ≤ 1048576 then 1048576 - (l.length : Int) else -1) < 0) = False := eq_false (by rw [if_pos (by omega)]; omega)
  generalize l.map conv = L at *
  unfold laws_FnExactLikeliestAt.f
  simp (disch := omega) only [↓reduceIte, hz, hz2, Option.bind_some, bne_self_eq_false, Bool.false_eq_true, decide_true, laws_FnExactLikeliestAt.j0, laws_FnExactLikeliestAt.j1, laws_FnExactLikeliestAt.j2, hT, h0, h1, hE, hS, hMB, hM, hH, hn1, hn2]


end Go.Proofs.Ytkobjjadojpjfaa.Pure
