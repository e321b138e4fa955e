/- Proved here: the law FnExactAheadAfter answers true at all that comes in; no other condition. -/
import Derived.Test.YtkobjjadojpjfaaSFnExactAheadAfter
import Derived.Test.YtkobjjadojpjfaaPL4
namespace Go.Proofs.Ytkobjjadojpjfaa.Pure
open Go.RowKit Go.Proofs.Ytkobjjadojpjfaa.Pr Go.Proofs.YtkobjjadojpjfaaW.PrintWords Go.Proofs.YtkobjjadojpjfaaW.PrintLast
set_option linter.unusedSimpArgs false

theorem ahead_loops : ∀ k, (∀ p q r y x n i, impl_AheadAfter.l0 k p q r y x n i = spec_AheadAfter.l0 k p q r y x n i) ∧ (∀ p q r y i' v x n i z m j, impl_AheadAfter.l1 k p q r y i' v x n i z m j = spec_AheadAfter.l1 k p q r y i' v x n i z m j)
  | 0 => ⟨fun _ _ _ _ _ _ _ => by simp only [impl_AheadAfter.l0, spec_AheadAfter.l0], fun _ _ _ _ _ _ _ _ _ _ _ _ => by simp only [impl_AheadAfter.l1, spec_AheadAfter.l1]⟩
  | k + 1 => by
    obtain ⟨h0, h1⟩ := ahead_loops k
    exact ⟨fun _ _ _ _ _ _ _ => by simp only [impl_AheadAfter.l0, spec_AheadAfter.l0, h1], fun _ _ _ _ _ _ _ _ _ _ _ _ => by simp only [impl_AheadAfter.l1, spec_AheadAfter.l1, h0, h1]⟩

theorem ahead_l1 (y x : List Int) (n i i' v : Int) (hy : y.length ≤ 1000) (K : Nat) (hc : ∀ p q r, ∃ z, ∀ k, K ≤ k → spec_AheadAfter.l0 k p q r y x n (wrap64 (i + 1)) = some z) : ∀ (d j : Nat) (p q r : Int), j + d = y.length →
    ∃ z, ∀ k, K + d + 1 ≤ k → spec_AheadAfter.l1 k p q r y i' v x n i y (y.length : Int) (j : Int) = some z
  | 0, j, p, q, r, h => by
    obtain ⟨z, hz⟩ := hc p q r
    refine ⟨z, fun k hk => ?_⟩
    obtain ⟨k, rfl⟩ : ∃ m, k = m + 1 := ⟨k - 1, by omega⟩
    simp only [spec_AheadAfter.l1]
    rw [if_neg (by omega), hz k (by omega)]
  | d + 1, j, p, q, r, h => by
    have hj : j < y.length := by omega
    have step : ∀ p q r, ∃ z, ∀ k, K + d + 1 ≤ k → spec_AheadAfter.l1 k p q r y i' v x n i y (y.length : Int) (wrap64 ((j : Int) + 1)) = some z := fun p q r => by
      obtain ⟨z, hz⟩ := ahead_l1 y x n i i' v hy K hc d (j + 1) p q r (by omega)
      exact ⟨z, fun k hk => by rw [w64_succ (by omega)]; exact hz k hk⟩
    by_cases c1 : i' > (j : Int)
    · obtain ⟨z, hz⟩ := step (wrap64 (p + wrap64 (v * rd y j))) q r
      refine ⟨z, fun k hk => ?_⟩
      obtain ⟨k, rfl⟩ : ∃ m, k = m + 1 := ⟨k - 1, by omega⟩
      simp only [spec_AheadAfter.l1]
      rw [if_pos (nat_lt hj), if_pos (nat_nn j), if_pos (nat_lt hj), if_pos c1, hz k (by omega)]
    · by_cases c2 : i' = (j : Int)
      · obtain ⟨z, hz⟩ := step p (wrap64 (q + wrap64 (v * rd y j))) r
        refine ⟨z, fun k hk => ?_⟩
        obtain ⟨k, rfl⟩ : ∃ m, k = m + 1 := ⟨k - 1, by omega⟩
        simp only [spec_AheadAfter.l1]
        rw [if_pos (nat_lt hj), if_pos (nat_nn j), if_pos (nat_lt hj), if_neg c1, if_pos c2, hz k (by omega)]
      · obtain ⟨z, hz⟩ := step p q (wrap64 (r + wrap64 (v * rd y j)))
        refine ⟨z, fun k hk => ?_⟩
        obtain ⟨k, rfl⟩ : ∃ m, k = m + 1 := ⟨k - 1, by omega⟩
        simp only [spec_AheadAfter.l1]
        rw [if_pos (nat_lt hj), if_pos (nat_nn j), if_pos (nat_lt hj), if_neg c1, if_neg c2, hz k (by omega)]

theorem ahead_l0 (y x : List Int) (hy : y.length ≤ 1000) (hx : x.length ≤ 1000) : ∀ (d i : Nat) (p q r : Int), i + d = x.length →
    ∃ z, ∀ k, 1010 * d + 5 ≤ k → spec_AheadAfter.l0 k p q r y x (x.length : Int) (i : Int) = some z
  | 0, i, p, q, r, h => by
    refine ⟨(p, q, r, true), fun k hk => ?_⟩
    obtain ⟨k, rfl⟩ : ∃ m, k = m + 1 := ⟨k - 1, by omega⟩
    simp only [spec_AheadAfter.l0]
    rw [if_neg (by omega)]
  | d + 1, i, p, q, r, h => by
    have hi : i < x.length := by omega
    obtain ⟨z, hz⟩ := ahead_l1 y x (x.length : Int) (i : Int) (i : Int) (rd x i) hy (1010 * d + 5) (fun p q r => by
      rw [w64_succ (by omega)]
      exact ahead_l0 y x hy hx d (i + 1) p q r (by omega)) y.length 0 p q r (by omega)
    refine ⟨z, fun k hk => ?_⟩
    obtain ⟨k, rfl⟩ : ∃ m, k = m + 1 := ⟨k - 1, by omega⟩
    simp only [spec_AheadAfter.l0]
    rw [if_pos (nat_lt hi), if_pos (nat_nn i), if_pos (nat_lt hi)]
    exact hz k (by omega)

theorem AheadAfter_same (a b c : Int) (l : List S27) (s t n : Int) : ∃ (K : Nat) (r : Int × Int × Int × Bool), ∀ k, K ≤ k → spec_AheadAfter.f k a b c l s t n = some r ∧ impl_AheadAfter.f k a b c l s t n = some r := by
  have hj0 : ∀ k x, spec_AheadAfter.j0 (k + 1) s t n x a b c l = if x = true then some (0, 0, 0, false) else (spec_chPlaces.f k a b c l t n).bind fun u => (spec_chPlaces.f k a b c l s n).bind fun v => spec_AheadAfter.l0 k 0 0 0 u v (v.length : Int) 0 := fun k x => by simp only [spec_AheadAfter.j0]
  by_cases h : (good a b c l && (sqr a l s && sqr a l t) && decide (0 ≤ n ∧ n ≤ 10)) = true
  · have h' := h
    simp only [Bool.and_eq_true, decide_eq_true_eq] at h'
    have B := Board.of_good h'.1.1
    have := B.a1; have := B.a2
    obtain ⟨s0, s1⟩ := sqr_le h'.1.2.1
    obtain ⟨t0, t1⟩ := sqr_le h'.1.2.2
    have l1 := (placesR_RowI B s s0 s1 n.toNat).len
    have l2 := (placesR_RowI B t t0 t1 n.toNat).len
    obtain ⟨z, hz⟩ := ahead_l0 (placesR a b c l t n.toNat) (placesR a b c l s n.toNat) (by omega) (by omega) (placesR a b c l s n.toNat).length 0 0 0 0 (by omega)
    rw [show ((0 : Nat) : Int) = 0 from rfl] at hz
    refine ⟨2000000, z, fun k hk => ?_⟩
    obtain ⟨k, rfl⟩ : ∃ m, k = m + 1 := ⟨k - 1, by omega⟩
    unfold spec_AheadAfter.f impl_AheadAfter.f
    rw [chAsked_eq a b c l s n _ (by omega), isThrown_eq a b c l n 10 _ _ (by omega), two_squares, h, sqSquare_eq B t _ (by omega), h'.1.1, h'.1.2.1, h'.1.2.2, decide_eq_true (show 0 ≤ n ∧ n ≤ 20 by omega),
      places_eq B s s0 s1 n (by omega) (by omega) _ (by omega), places_eq B t t0 t1 n (by omega) (by omega) _ (by omega), hj0, hj0, chPlaces_eq B s s0 s1 n (by omega) (by omega) _ (by omega), chPlaces_eq B t t0 t1 n (by omega) (by omega) _ (by omega), decide_eq_false (show ¬ n > 10 by omega)]
    simp only [Option.bind_some, (ahead_loops _).1]
    rw [hz (k + 1) (by omega), hz k (by omega)]
    exact ⟨rfl, rfl⟩
  · refine ⟨2000, (0, 0, 0, false), fun k hk => ?_⟩
    obtain ⟨k, rfl⟩ : ∃ m, k = m + 1 := ⟨k - 1, by omega⟩
    unfold spec_AheadAfter.f impl_AheadAfter.f
    rw [chAsked_eq a b c l s n _ (by omega), isThrown_eq a b c l n 10 _ _ (by omega), two_squares, hj0, hj0]
    simp only [Option.bind_some]
    rw [if_neg h]
    refine ⟨?_, rfl⟩
    by_cases h1 : (good a b c l && sqr a l s && decide (0 ≤ n ∧ n ≤ 20)) = true
    · rw [if_pos h1]
      have h1' := h1
      simp only [Bool.and_eq_true, decide_eq_true_eq] at h1'
      rw [sqSquare_eq (Board.of_good h1'.1.1) t _ (by omega)]
      simp only [Option.bind_some]
      by_cases h2 : sqr a l t = true
      · rw [if_pos h2, if_pos]
        rw [decide_eq_true_eq]
        refine Decidable.byContradiction fun h3 => h ?_
        simp only [Bool.and_eq_true, decide_eq_true_eq]
        exact ⟨⟨h1'.1.1, h1'.1.2, h2⟩, by omega, by omega⟩
      · rw [if_neg h2]; rfl
    · rw [if_neg h1]; rfl

attribute [local congr] bind_weak in
theorem FnExactAheadAfter : laws_FnExactAheadAfter.Pure := by
  intro a b c l s t n wa wb wc hm hw w_s w_t w_n
  by_cases hlen : l.length ≤ 1048576
  case neg =>
    refine ⟨0, ?_⟩
    unfold laws_FnExactAheadAfter.f
    rw [szBoard_eq a b c l _ (by omega) (by omega) hm]
    simp only [Option.bind_some]
    rw [if_pos (by rw [if_neg (by omega)]; omega)]
  obtain ⟨K, r, hr⟩ := AheadAfter_same a b c (l.map conv) s t n
  obtain ⟨n, hn⟩ : ∃ n, n = 2097300 + K := ⟨_, rfl⟩
  have h0 := fun k hk => (hr k hk).1
  have h1 := fun k hk => (hr k hk).2
  refine ⟨n + 4, ?_⟩
  have hT := fun k hk => toBoard_eq a b c l hlen k hk
  have hE := fun k hk => eqBoard_same a b c (l.map conv) (by rw [List.length_map]; omega) k hk
  have hlm : (l.map conv).length = l.length := List.length_map ..
  have hz := szBoard_eq a b c l 1048576 (by omega) (by omega) hm
  have hz2 : ((if (l.length : Int) ≤ 1048576 then 1048576 - (l.length : Int) else -1) < 0) = False := eq_false (by rw [if_pos (by omega)]; omega)
  generalize l.map conv = L at *
  unfold laws_FnExactAheadAfter.f
  simp (disch := omega) only [↓reduceIte, hz, hz2, Option.bind_some, bne_self_eq_false, Bool.false_eq_true, decide_true, laws_FnExactAheadAfter.j0, hT, h0, h1, hE]


end Go.Proofs.Ytkobjjadojpjfaa.Pure
