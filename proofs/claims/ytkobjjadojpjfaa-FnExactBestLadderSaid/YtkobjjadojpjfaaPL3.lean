/- Proved here: the landings of a token and what is counted over them; the conditions are a board's own bounds. -/
import Derived.Test.YtkobjjadojpjfaaPL2
import Derived.Test.YtkobjjadojpjfaaFImplBoardLandings
namespace Go.Proofs.Ytkobjjadojpjfaa.Pr
open Go.RowKit Go.Proofs.YtkobjjadojpjfaaW.PrintWords Go.Proofs.YtkobjjadojpjfaaW.PrintLast Go.Proofs.YtkobjjadojpjfaaW.PrintMore
set_option linter.unusedVariables false
set_option linter.unusedSimpArgs false

def lands (a c : Int) (l : List S27) (s : Int) : Nat → Nat → List Int
  | _, 0 => []
  | i, d + 1 => thr a c l s (i : Int) :: lands a c l s (i + 1) d

theorem lands_length (a c : Int) (l : List S27) (s : Int) : ∀ d i, (lands a c l s i d).length = d
  | 0, i => rfl
  | d + 1, i => by simp [lands, lands_length a c l s d (i + 1)]

theorem landings_l0 {a b c : Int} {l : List S27} (B : Board a b c l) (s : Int) (hs0 : 0 ≤ s) (hs1 : s ≤ a) : ∀ (d i k : Nat) (out : List Int), (i + d : Nat) = b + 1 → 1 ≤ i → d + 25 < k → out.length ≤ i →
    impl_Board_landings.l0 k s out (i : Int) a b c l = some (out ++ lands a c l s i d)
  | 0, i, k, out, h1, h2, h3, h4 => by
    obtain ⟨k, rfl⟩ : ∃ m, k = m + 1 := ⟨k - 1, by omega⟩
    simp only [impl_Board_landings.l0]
    rw [if_neg (by omega)]
    simp [lands]
  | d + 1, i, k, out, h1, h2, h3, h4 => by
    obtain ⟨k, rfl⟩ : ∃ m, k = m + 1 := ⟨k - 1, by omega⟩
    have := B.b2
    simp only [impl_Board_landings.l0]
    rw [if_pos (by omega), throw_eq B s i hs0 hs1 (by omega) (by omega) k (by omega)]
    simp only [Option.bind_some]
    rw [if_pos (by omega), w64_succ (by omega), landings_l0 B s hs0 hs1 d (i + 1) k _ (by omega) (by omega) (by omega) (by simp; omega)]
    simp [lands]

theorem landings_eq {a b c : Int} {l : List S27} (B : Board a b c l) (s : Int) (hs0 : 0 ≤ s) (hs1 : s ≤ a) (k : Nat) (hk : 40 ≤ k) :
    impl_Board_landings.f k a b c l s = some (lands a c l s 1 b.toNat) := by
  have := B.b1; have := B.b2
  unfold impl_Board_landings.f
  have := landings_l0 B s hs0 hs1 b.toNat 1 k [] (by omega) (by omega) (by omega) (by simp)
  simpa using this

theorem Board.lands_sqr {a b c : Int} {l : List S27} (B : Board a b c l) (s : Int) (hs : sqr a l s = true) : ∀ (d i : Nat), (i + d : Nat) = b + 1 → 1 ≤ i → ∀ x ∈ lands a c l s i d, sqr a l x = true
  | 0, i, h1, h2, x, hx => by simp [lands] at hx
  | d + 1, i, h1, h2, x, hx => by
    rcases List.mem_cons.mp hx with rfl | hx
    · exact B.thr_sqr s _ hs (by omega) (by omega)
    · exact B.lands_sqr s hs d (i + 1) (by omega) (by omega) x hx

theorem Board.lands_le {a b c : Int} {l : List S27} (B : Board a b c l) (s : Int) (hs0 : 0 ≤ s) (hs1 : s ≤ a) : ∀ (d i : Nat), (i + d : Nat) = b + 1 → 1 ≤ i → ∀ x ∈ lands a c l s i d, 0 ≤ x ∧ x ≤ a
  | 0, i, h1, h2, x, hx => by simp [lands] at hx
  | d + 1, i, h1, h2, x, hx => by
    have := B.b2; have := B.a1
    rcases List.mem_cons.mp hx with rfl | hx
    · unfold thr
      split
      · omega
      · split
        · exact ⟨(B.beg_le _ (by omega) (by omega)).1, (B.beg_le _ (by omega) (by omega)).2.1⟩
        · split
          · omega
          · split
            · rename_i h; exact ⟨(B.beg_le _ h.2 (by omega)).1, (B.beg_le _ h.2 (by omega)).2.1⟩
            · omega
    · exact B.lands_le s hs0 hs1 d (i + 1) (by omega) (by omega) x hx

theorem Board.lands_lt {a b c : Int} {l : List S27} (B : Board a b c l) (s : Int) (hs0 : 0 ≤ s) (hs1 : s ≤ a) : ∀ x ∈ lands a c l s 1 b.toNat, 0 ≤ x ∧ x < ((a + 1).toNat : Int) := fun x hx => by
  have := B.b1; have := B.a1
  have := B.lands_le s hs0 hs1 b.toNat 1 (by omega) (by omega) x hx
  omega

theorem two_squares (a : Int) (l : List S27) (s t : Int) : [s, t].all (sqr a l) = (sqr a l s && sqr a l t) := by simp

theorem one_square (a : Int) (l : List S27) (s : Int) : [s].all (sqr a l) = sqr a l s := by simp

end Go.Proofs.Ytkobjjadojpjfaa.Pr
