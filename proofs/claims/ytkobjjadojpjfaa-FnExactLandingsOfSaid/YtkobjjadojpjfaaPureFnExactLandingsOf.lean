/- Proved here: the law FnExactLandingsOf answers true at all that comes in; no other condition. -/
import Derived.Test.YtkobjjadojpjfaaSFnExactLandingsOf
import Derived.Test.YtkobjjadojpjfaaPL3
namespace Go.Proofs.Ytkobjjadojpjfaa.Pure
open Go.RowKit Go.Proofs.Ytkobjjadojpjfaa.Pr Go.Proofs.YtkobjjadojpjfaaW.PrintWords Go.Proofs.YtkobjjadojpjfaaW.PrintLast
set_option linter.unusedSimpArgs false

theorem LandingsOf_l0 {a b c : Int} {l : List S27} (B : Board a b c l) (s : Int) (hs0 : 0 ≤ s) (hs1 : s ≤ a) : ∀ (d i k : Nat) (out : List Int), (i + d : Nat) = b + 1 → 1 ≤ i → d + 25 < k → out.length ≤ i →
    spec_LandingsOf.l0 k s out (i : Int) a b c l = some (out ++ lands a c l s i d, true)
  | 0, i, k, out, h1, h2, h3, h4 => by
    obtain ⟨k, rfl⟩ : ∃ m, k = m + 1 := ⟨k - 1, by omega⟩
    simp only [spec_LandingsOf.l0]
    rw [if_neg (by omega)]
    simp [lands]
  | d + 1, i, k, out, h1, h2, h3, h4 => by
    obtain ⟨k, rfl⟩ : ∃ m, k = m + 1 := ⟨k - 1, by omega⟩
    have := B.b2
    simp only [spec_LandingsOf.l0]
    rw [if_pos (by omega), sqThrow_eq B s i hs0 hs1 (by omega) (by omega) k (by omega)]
    simp only [Option.bind_some]
    rw [if_pos (by omega), w64_succ (by omega), LandingsOf_l0 B s hs0 hs1 d (i + 1) k _ (by omega) (by omega) (by omega) (by simp; omega)]
    simp [lands]

theorem LandingsOf_same (a b c : Int) (l : List S27) (s : Int) : ∃ r, r.1.length ≤ 8 ∧ ∀ k, 100 ≤ k → spec_LandingsOf.f k a b c l s = some r ∧ impl_LandingsOf.f k a b c l s = some r := by
  by_cases h : (good a b c l && sqr a l s) = true
  · have h' := h
    rw [Bool.and_eq_true] at h'
    have B := Board.of_good h'.1
    have := B.b1; have := B.b2
    obtain ⟨s0, s1⟩ := sqr_le h'.2
    refine ⟨(lands a c l s 1 b.toNat, true), by rw [lands_length]; omega, fun k hk => ?_⟩
    unfold spec_LandingsOf.f impl_LandingsOf.f
    rw [sqAsked_eq a b c l s k hk, areSquares_eq a b c l _ k hk, one_square, h, landings_eq B s s0 s1 k (by omega)]
    have := LandingsOf_l0 B s s0 s1 b.toNat 1 k [] (by omega) (by omega) (by omega) (by simp)
    rw [show ((1 : Nat) : Int) = 1 from rfl] at this
    simp [this]
  · refine ⟨([], false), by simp, fun k hk => ?_⟩
    unfold spec_LandingsOf.f impl_LandingsOf.f
    rw [sqAsked_eq a b c l s k hk, areSquares_eq a b c l _ k hk, one_square]
    simp only [Option.bind_some]
    rw [if_neg h, if_neg h]
    exact ⟨rfl, rfl⟩

theorem FnExactLandingsOf : laws_FnExactLandingsOf.Pure := by
  intro a b c l s wa wb wc hm hw ws
  by_cases hlen : l.length ≤ 1048576
  · obtain ⟨⟨r, y⟩, hl, hr⟩ := LandingsOf_same a b c (l.map conv) s
    obtain ⟨n, hn⟩ : ∃ n, n = 1048700 := ⟨_, rfl⟩
    have h0 := fun k hk => (hr k hk).1
    have h1 := fun k hk => (hr k hk).2
    have hl' : r.length ≤ 8 := hl
    refine ⟨n + 4, ?_⟩
    have hT := fun k hk => toBoard_eq a b c l hlen k hk
    have hE := fun k hk => eqBoard_same a b c (l.map conv) (by rw [List.length_map]; omega) k hk
    have hS := fun k hk => eqIntS_eq r r (by omega) k hk
    have hMB := fun k hk => markBoard_eq a b c (l.map conv) (by rw [List.length_map]; omega) k hk
    have hM := fun k hk => markIntS_eq r (by omega) k hk
    have hH := fun k hk => heldIntS_eq r.length (by omega) k hk
    have hlm : (l.map conv).length = l.length := List.length_map ..
    generalize l.map conv = L at *
    have hj2 : ∀ x, laws_FnExactLandingsOf.j2 (n + 2) (marksI 1 r.length) (1 + (r.length : Int)) x = if x = true then some false else some true := fun x => by
      simp only [laws_FnExactLandingsOf.j2]
      rw [hH _ (by omega)]
      simp only [Option.bind_some]
      rw [if_neg (show ¬ (1 + (r.length : Int) < 0) by omega), if_pos trivial]
    have hj1 : ∀ x, laws_FnExactLandingsOf.j1 (n + 3) s r y r x a b c l = if x = true then some false else some true := fun x => by
      simp only [laws_FnExactLandingsOf.j1]
      rw [hM _ (by omega)]
      simp only [Option.bind_some]
      rw [hH _ (by omega), hT _ (by omega)]
      simp only [Option.bind_some]
      rw [if_neg (show ¬ (1 + (r.length : Int) < 0) by omega), if_pos trivial, h1 _ (by omega)]
      simp only [Option.bind_some]
      rw [hS _ (by omega)]
      simp [hj2]
    have hj0 : ∀ x, laws_FnExactLandingsOf.j0 (n + 4) s r y r y x a b c l a b c L = if x = true then some false else some true := fun x => by
      simp only [laws_FnExactLandingsOf.j0]
      rw [hT _ (by omega)]
      simp only [Option.bind_some]
      rw [hE _ (by omega), hMB _ (by omega)]
      simp only [Option.bind_some]
      rw [if_neg (show ¬ (1 + 2 * (L.length : Int) < 0) by omega), hS _ (by omega)]
      simp [hj1]
    unfold laws_FnExactLandingsOf.f
    rw [szBoard_eq a b c l _ (by omega) (by omega) hm, hT _ (by omega)]
    simp only [Option.bind_some]
    rw [h0 _ (by omega), h1 _ (by omega)]
    simp only [Option.bind_some]
    rw [hS _ (by omega), if_neg (by split <;> omega)]
    simp [hj0]
  · refine ⟨0, ?_⟩
    unfold laws_FnExactLandingsOf.f
    rw [szBoard_eq a b c l _ (by omega) (by omega) hm]
    simp only [Option.bind_some]
    rw [if_pos (by rw [if_neg (by omega)]; omega)]

end Go.Proofs.Ytkobjjadojpjfaa.Pure
