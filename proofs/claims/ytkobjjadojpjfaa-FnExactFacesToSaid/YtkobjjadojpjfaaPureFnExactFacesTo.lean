/- Proved here: the law FnExactFacesTo answers true at all that comes in; no other condition. -/
import Derived.Test.YtkobjjadojpjfaaSFnExactFacesTo
import Derived.Test.YtkobjjadojpjfaaPL3
import Derived.Test.YtkobjjadojpjfaaFGD
namespace Go.Proofs.Ytkobjjadojpjfaa.Pure
open Go.RowKit Go.Proofs.Ytkobjjadojpjfaa.Pr Go.Proofs.YtkobjjadojpjfaaW.PrintWords Go.Proofs.YtkobjjadojpjfaaW.PrintLast
set_option linter.unusedSimpArgs false

theorem sqFaces_l0 {a b c : Int} {l : List S27} (B : Board a b c l) (s t : Int) (hs0 : 0 ≤ s) (hs1 : s ≤ a) : ∀ (d i k : Nat) (m : Nat), (i + d : Nat) = b + 1 → 1 ≤ i → d + 25 < k → m ≤ i →
    spec_sqFaces.l0 k s t (m : Int) (i : Int) a b c l = some ((m + (lands a c l s i d).count t : Nat) : Int)
  | 0, i, k, m, h1, h2, h3, h4 => by
    obtain ⟨k, rfl⟩ : ∃ m, k = m + 1 := ⟨k - 1, by omega⟩
    simp only [spec_sqFaces.l0]
    rw [if_neg (by omega)]
    simp [lands]
  | d + 1, i, k, m, h1, h2, h3, h4 => by
    obtain ⟨k, rfl⟩ : ∃ m, k = m + 1 := ⟨k - 1, by omega⟩
    have := B.b2
    simp only [spec_sqFaces.l0]
    rw [if_pos (by omega), sqThrow_eq B s i hs0 hs1 (by omega) (by omega) k (by omega)]
    simp only [Option.bind_some]
    rw [w64_succ (i := i) (by omega), w64_succ (i := m) (by omega), sqFaces_l0 B s t hs0 hs1 d (i + 1) k _ (by omega) (by omega) (by omega) (by omega), sqFaces_l0 B s t hs0 hs1 d (i + 1) k _ (by omega) (by omega) (by omega) (by omega)]
    simp only [lands, List.count_cons]
    by_cases h : thr a c l s i = t
    · rw [if_pos h, if_pos (by simp [h])]; congr 2; omega
    · rw [if_neg h, if_neg (by simp [h])]; rfl

theorem FacesTo_l0 (t : Int) (x : List Int) (hx : x.length ≤ 100) : ∀ (d i k : Nat) (m : Nat), i + d = x.length → d < k → m ≤ i →
    impl_FacesTo.l0 k t (m : Int) x (x.length : Int) (i : Int) = some (((m + (x.drop i).count t : Nat) : Int), true)
  | 0, i, k, m, h1, h2, h3 => by
    obtain ⟨k, rfl⟩ : ∃ m, k = m + 1 := ⟨k - 1, by omega⟩
    simp only [impl_FacesTo.l0]
    rw [if_neg (by omega), List.drop_of_length_le (by omega)]
    simp
  | d + 1, i, k, m, h1, h2, h3 => by
    obtain ⟨k, rfl⟩ : ∃ m, k = m + 1 := ⟨k - 1, by omega⟩
    have hi : i < x.length := by omega
    simp only [impl_FacesTo.l0]
    rw [if_pos (nat_lt hi), if_pos (nat_nn i), if_pos (nat_lt hi), rd_at hi, w64_succ (i := i) (by omega), w64_succ (i := m) (by omega), FacesTo_l0 t x hx d (i + 1) k _ (by omega) (by omega) (by omega), FacesTo_l0 t x hx d (i + 1) k _ (by omega) (by omega) (by omega), List.drop_eq_getElem_cons hi, List.count_cons]
    by_cases h : x[i] = t
    · rw [if_pos h, if_pos (by simp [h])]; congr 3; omega
    · rw [if_neg h, if_neg (by simp [h])]; rfl

theorem FacesTo_same (a b c : Int) (l : List S27) (s t : Int) : ∃ r, ∀ k, 100 ≤ k → spec_FacesTo.f k a b c l s t = some r ∧ impl_FacesTo.f k a b c l s t = some r := by
  by_cases h : (good a b c l && (sqr a l s && sqr a l t)) = true
  · have h' := h
    simp only [Bool.and_eq_true] at h'
    have B := Board.of_good h'.1
    have := B.b1; have := B.b2
    obtain ⟨s0, s1⟩ := sqr_le h'.2.1
    refine ⟨(((lands a c l s 1 b.toNat).count t : Nat), true), fun k hk => ?_⟩
    unfold spec_FacesTo.f impl_FacesTo.f spec_sqFaces.f
    rw [sqAsked_eq a b c l s k hk, areSquares_eq a b c l _ k hk, two_squares, h, h'.1, h'.2.1, landings_eq B s s0 s1 k (by omega), sqSquare_eq B t k (by omega), h'.2.2]
    have h1 := sqFaces_l0 B s t s0 s1 b.toNat 1 k 0 (by omega) (by omega) (by omega) (by simp)
    rw [show ((1 : Nat) : Int) = 1 from rfl, show ((0 : Nat) : Int) = 0 from rfl] at h1
    have h2 := FacesTo_l0 t (lands a c l s 1 b.toNat) (by rw [lands_length]; omega) b.toNat 0 k 0 (by rw [lands_length]; omega) (by omega) (by omega)
    rw [show ((0 : Nat) : Int) = 0 from rfl] at h2
    simp [h1, h2]
  · refine ⟨(0, false), fun k hk => ?_⟩
    unfold spec_FacesTo.f impl_FacesTo.f
    rw [sqAsked_eq a b c l s k hk, areSquares_eq a b c l _ k hk, two_squares]
    simp only [Option.bind_some]
    rw [if_neg h]
    refine ⟨?_, rfl⟩
    by_cases h1 : (good a b c l && sqr a l s) = true
    · rw [if_pos h1]
      rw [Bool.and_eq_true] at h1
      rw [sqSquare_eq (Board.of_good h1.1) t k (by omega)]
      have : sqr a l t = false := by
        cases h2 : sqr a l t with
        | false => rfl
        | true => exact absurd (by rw [h1.1, h1.2, h2]; rfl) h
      rw [this]; rfl
    · rw [if_neg h1]

theorem FnExactFacesTo : laws_FnExactFacesTo.Pure := by
  intro a b c l s t wa wb wc hm hw ws wt
  by_cases hlen : l.length ≤ 1048576
  · obtain ⟨r, hr⟩ := FacesTo_same a b c (l.map conv) s t
    refine ⟨1048700 + 1, ?_⟩
    have hT := fun k hk => toBoard_eq a b c l hlen k hk
    have hE := eqBoard_same a b c (l.map conv) (by rw [List.length_map]; omega)
    unfold laws_FnExactFacesTo.f
    simp only [laws_FnExactFacesTo.j0]
    rw [szBoard_eq a b c l _ (by omega) (by omega) hm, hT _ (by omega), hT _ (by omega)]
    simp only [Option.bind_some]
    rw [(hr _ (by omega)).1, (hr _ (by omega)).2]
    simp only [Option.bind_some]
    rw [hE _ (by rw [List.length_map]; omega), if_neg (by split <;> omega)]
    simp
  · refine ⟨0, ?_⟩
    unfold laws_FnExactFacesTo.f
    rw [szBoard_eq a b c l _ (by omega) (by omega) hm]
    simp only [Option.bind_some]
    rw [if_pos (by rw [if_neg (by omega)]; omega)]

end Go.Proofs.Ytkobjjadojpjfaa.Pure
