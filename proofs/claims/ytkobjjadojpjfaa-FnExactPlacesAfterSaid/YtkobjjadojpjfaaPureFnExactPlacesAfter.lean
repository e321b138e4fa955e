/- Proved here: the law FnExactPlacesAfter answers true at all that comes in; no other condition. -/
import Derived.Test.YtkobjjadojpjfaaSFnExactPlacesAfter
import Derived.Test.YtkobjjadojpjfaaPL4
namespace Go.Proofs.Ytkobjjadojpjfaa.Pure
open Go.RowKit Go.Proofs.Ytkobjjadojpjfaa.Pr Go.Proofs.YtkobjjadojpjfaaW.PrintWords Go.Proofs.YtkobjjadojpjfaaW.PrintLast
set_option linter.unusedSimpArgs false

theorem PlacesAfter_same (a b c : Int) (l : List S27) (s n : Int) : ∃ (K : Nat) (r : List Int × Bool), r.1.length ≤ 1048576 ∧ ∀ k, K ≤ k → spec_PlacesAfter.f k a b c l s n = some r ∧ impl_PlacesAfter.f k a b c l s n = some r := by
  by_cases h : (good a b c l && sqr a l s && decide (0 ≤ n ∧ n ≤ 20)) = true
  · have h' := h
    simp only [Bool.and_eq_true, decide_eq_true_eq] at h'
    have B := Board.of_good h'.1.1
    have := B.a1; have := B.a2
    obtain ⟨s0, s1⟩ := sqr_le h'.1.2
    refine ⟨30000, (placesR a b c l s n.toNat, true), by rw [(placesR_RowI B s s0 s1 n.toNat).len]; omega, fun k hk => ?_⟩
    unfold spec_PlacesAfter.f impl_PlacesAfter.f
    rw [chAsked_eq a b c l s n k (by omega), isThrown_eq a b c l n 20 _ k (by omega), one_square, h, places_eq B s s0 s1 n h'.2.1 h'.2.2 k (by omega), chPlaces_eq B s s0 s1 n h'.2.1 h'.2.2 k (by omega)]
    exact ⟨rfl, rfl⟩
  · refine ⟨100, ([], false), by simp, fun k hk => ?_⟩
    unfold spec_PlacesAfter.f impl_PlacesAfter.f
    rw [chAsked_eq a b c l s n k (by omega), isThrown_eq a b c l n 20 _ k (by omega), one_square]
    simp only [Option.bind_some]
    rw [if_neg h, if_neg h]
    exact ⟨rfl, rfl⟩

attribute [local congr] bind_weak in
theorem FnExactPlacesAfter : laws_FnExactPlacesAfter.Pure := by
  intro a b c l s n wa wb wc hm hw w_s w_n
  by_cases hlen : l.length ≤ 1048576
  case neg =>
    refine ⟨0, ?_⟩
    unfold laws_FnExactPlacesAfter.f
    rw [szBoard_eq a b c l _ (by omega) (by omega) hm]
    simp only [Option.bind_some]
    rw [if_pos (by rw [if_neg (by omega)]; omega)]
  obtain ⟨K, ⟨r, y⟩, hl0, hr⟩ := PlacesAfter_same a b c (l.map conv) s n
  have hl' : r.length ≤ 1048576 := hl0
  obtain ⟨n, hn⟩ : ∃ n, n = 2097300 + K := ⟨_, rfl⟩
  have h0 := fun k hk => (hr k hk).1
  have h1 := fun k hk => (hr k hk).2
  refine ⟨n + 4, ?_⟩
  have hT := fun k hk => toBoard_eq a b c l hlen k hk
  have hE := fun k hk => eqBoard_same a b c (l.map conv) (by rw [List.length_map]; omega) k hk
  have hlm : (l.map conv).length = l.length := List.length_map ..
  have hS := fun k hk => eqIntS_eq r r (by omega) k hk
  have hMB := fun k hk => markBoard_eq a b c (l.map conv) (by rw [List.length_map]; omega) k hk
  have hM := fun k hk => markIntS_eq r (by omega) k hk
  have hH := fun k hk => heldIntS_eq r.length (by omega) k hk
  have hn1 : (1 + (r.length : Int) < 0) = False := eq_false (by omega)
  have hn2 : (1 + 2 * ((l.map conv).length : Int) < 0) = False := eq_false (by omega)
  have hz := szBoard_eq a b c l 1048576 (by omega) (by omega) hm
  have hz2 : ((if (l.length : Int) ≤ 1048576 then 1048576 - (l.length : Int) else -1) < 0) = False := eq_false (by rw [if_pos (by omega)]; omega)
  generalize l.map conv = L at *
  unfold laws_FnExactPlacesAfter.f
  simp (disch := omega) only [↓reduceIte, hz, hz2, Option.bind_some, bne_self_eq_false, Bool.false_eq_true, decide_true, laws_FnExactPlacesAfter.j0, laws_FnExactPlacesAfter.j1, laws_FnExactPlacesAfter.j2, hT, h0, h1, hE, hS, hMB, hM, hH, hn1, hn2]


end Go.Proofs.Ytkobjjadojpjfaa.Pure
