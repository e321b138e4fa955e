/- Proved here: what the statements' own helpers over lists of whole numbers and over marks answer; the conditions are lengths. -/
import Derived.Test.YtkobjjadojpjfaaPL1
import Derived.Test.YtkobjjadojpjfaaFGM
namespace Go.Proofs.Ytkobjjadojpjfaa.Pr
open Go.RowKit Go.Proofs.YtkobjjadojpjfaaW.PrintWords Go.Proofs.YtkobjjadojpjfaaW.PrintLast Go.Proofs.YtkobjjadojpjfaaW.PrintMore
set_option linter.unusedVariables false
set_option linter.unusedSimpArgs false

theorem eqIntS_l0 (x y : List Int) (hx : x.length ≤ 9223372036854775806) (hxy : x.length = y.length) : ∀ (d i k : Nat), i + d = x.length → d < k →
    laws_eqIntS.l0 k x y (i : Int) = some (decide (x.drop i = y.drop i))
  | 0, i, k, h1, h3 => by
    obtain ⟨k, rfl⟩ : ∃ m, k = m + 1 := ⟨k - 1, by omega⟩
    simp only [laws_eqIntS.l0]
    rw [if_neg (nat_nlt (by omega)), List.drop_of_length_le (by omega), List.drop_of_length_le (by omega)]
    simp
  | d + 1, i, k, h1, h3 => by
    obtain ⟨k, rfl⟩ : ∃ m, k = m + 1 := ⟨k - 1, by omega⟩
    have hi : i < x.length := by omega
    have hj : i < y.length := by omega
    simp only [laws_eqIntS.l0]
    rw [if_pos (nat_lt hi), if_pos (nat_nn i), if_pos (nat_lt hj), rd_at hi, rd_at hj, w64_succ (by omega), eqIntS_l0 x y hx hxy d (i + 1) k (by omega) (by omega), List.drop_eq_getElem_cons hi, List.drop_eq_getElem_cons hj]
    by_cases h : x[i] = y[i]
    · rw [if_pos h]; simp only [List.cons.injEq, h, true_and]
    · rw [if_neg h]; simp only [List.cons.injEq, h, false_and, decide_false]

theorem eqIntS_eq (x y : List Int) (hx : x.length ≤ 9223372036854775806) (k : Nat) (hk : x.length < k) : laws_eqIntS.f k x y = some (decide (x = y)) := by
  unfold laws_eqIntS.f
  by_cases h : x.length = y.length
  · rw [if_pos (by omega)]
    have := eqIntS_l0 x y hx h x.length 0 k (by omega) hk
    simpa using this
  · rw [if_neg (by omega)]
    have : x ≠ y := fun e => h (by rw [e])
    simp [this]

/-! #### marks -/
def marksI (m : Int) : Nat → List Int
  | 0 => []
  | n + 1 => m :: marksI (m + 1) n

theorem marksI_length (m : Int) : ∀ n, (marksI m n).length = n
  | 0 => rfl
  | n + 1 => by simp [marksI, marksI_length (m + 1) n]

theorem markIntS_l0 : ∀ (d i k : Nat) (x : List Int) (m : Int), i + d = x.length → x.length ≤ 1099511627776 → 0 ≤ m → m + d ≤ 4611686018427387904 → d < k →
    laws_markIntS.l0 k x m (i : Int) = some (m + d, x.take i ++ marksI m d)
  | 0, i, k, x, m, h1, h2, h4, h5, h3 => by
    obtain ⟨k, rfl⟩ : ∃ m, k = m + 1 := ⟨k - 1, by omega⟩
    simp only [laws_markIntS.l0]
    rw [if_neg (nat_nlt (by omega)), List.take_of_length_le (by omega)]
    simp [marksI]
  | d + 1, i, k, x, m, h1, h2, h4, h5, h3 => by
    obtain ⟨k, rfl⟩ : ∃ m, k = m + 1 := ⟨k - 1, by omega⟩
    have hi : i < x.length := by omega
    simp only [laws_markIntS.l0]
    rw [if_pos (nat_lt hi), if_pos (nat_nn i), w64_succ (by omega), w64 (m + 1) (by omega) (by omega), markIntS_l0 d (i + 1) k _ (m + 1) (by simp; omega) (by simpa using h2) (by omega) (by omega) (by omega), Int.toNat_natCast, set_take _ _ _ hi]
    simp [marksI]
    omega

theorem markIntS_eq (x : List Int) (hx : x.length ≤ 1099511627776) (k : Nat) (hk : x.length < k) : laws_markIntS.f k x 1 = some (1 + (x.length : Int), marksI 1 x.length) := by
  unfold laws_markIntS.f
  have := markIntS_l0 x.length 0 k x 1 (by omega) hx (by omega) (by omega) hk
  simpa using this

theorem markIntS_any (x : List Int) (m : Int) (hx : x.length ≤ 1099511627776) (h0 : 0 ≤ m) (h1 : m ≤ 1099511627776) (k : Nat) (hk : x.length < k) : laws_markIntS.f k x m = some (m + (x.length : Int), marksI m x.length) := by
  unfold laws_markIntS.f
  have := markIntS_l0 x.length 0 k x m (by omega) hx (by omega) (by omega) hk
  simpa using this

theorem heldIntS_l0 : ∀ (d i k : Nat) (p : List Int) (m : Int), p.length = i → i + d ≤ 1099511627776 → 0 ≤ m → m + d ≤ 4611686018427387904 → d < k →
    laws_heldIntS.l0 k (p ++ marksI m d) m (i : Int) = some (m + d)
  | 0, i, k, p, m, h1, h2, h4, h5, h3 => by
    obtain ⟨k, rfl⟩ : ∃ m, k = m + 1 := ⟨k - 1, by omega⟩
    simp only [laws_heldIntS.l0]
    rw [if_neg (nat_nlt (by simp [marksI]; omega))]
    simp
  | d + 1, i, k, p, m, h1, h2, h4, h5, h3 => by
    obtain ⟨k, rfl⟩ : ∃ m, k = m + 1 := ⟨k - 1, by omega⟩
    have hi : i < (p ++ marksI m (d + 1)).length := by simp [marksI_length]; omega
    simp only [laws_heldIntS.l0]
    have e : rd (p ++ marksI m (d + 1)) (i : Int) = m := by
      rw [rd_at hi, List.getElem_append_right (by omega)]
      simp [h1, marksI]
    rw [if_pos (nat_lt hi), if_pos (nat_nn i), if_pos e, w64_succ (by omega), w64 (m + 1) (by omega) (by omega)]
    have := heldIntS_l0 d (i + 1) k (p ++ [m]) (m + 1) (by simp; omega) (by omega) (by omega) (by omega) (by omega)
    rw [show p ++ marksI m (d + 1) = p ++ [m] ++ marksI (m + 1) d by simp [marksI], this]
    congr 1
    omega

theorem heldIntS_eq (n : Nat) (hx : n ≤ 1099511627776) (k : Nat) (hk : n < k) : laws_heldIntS.f k (marksI 1 n) 1 = some (1 + (n : Int)) := by
  unfold laws_heldIntS.f
  have := heldIntS_l0 n 0 k [] 1 rfl (by omega) (by omega) (by omega) hk
  simpa using this

def marksJ (m : Int) : Nat → List S27
  | 0 => []
  | n + 1 => ⟨m, m + 1⟩ :: marksJ (m + 1 + 1) n

theorem marksJ_length (m : Int) : ∀ n, (marksJ m n).length = n
  | 0 => rfl
  | n + 1 => by simp [marksJ, marksJ_length (m + 1 + 1) n]

theorem markJumpS_l0 : ∀ (d i k : Nat) (x : List S27) (m : Int), i + d = x.length → x.length ≤ 1099511627776 → 0 ≤ m → m + 2 * d ≤ 4611686018427387904 → d < k →
    laws_markJumpS.l0 k x m (i : Int) = some (m + 2 * d, x.take i ++ marksJ m d)
  | 0, i, k, x, m, h1, h2, h4, h5, h3 => by
    obtain ⟨k, rfl⟩ : ∃ m, k = m + 1 := ⟨k - 1, by omega⟩
    simp only [laws_markJumpS.l0]
    rw [if_neg (nat_nlt (by omega)), List.take_of_length_le (by omega)]
    simp [marksJ]
  | d + 1, i, k, x, m, h1, h2, h4, h5, h3 => by
    obtain ⟨k, rfl⟩ : ∃ m, k = m + 1 := ⟨k - 1, by omega⟩
    have hi : i < x.length := by omega
    simp only [laws_markJumpS.l0, Option.bind_some]
    rw [if_pos (nat_lt hi), if_pos (nat_nn i), w64_succ (by omega), w64 (m + 1) (by omega) (by omega), w64 (m + 1 + 1) (by omega) (by omega), Int.toNat_natCast, rdJ_at (l := x.set i _) (by simpa using hi), List.set_set, markJumpS_l0 d (i + 1) k _ (m + 1 + 1) (by simp; omega) (by simpa using h2) (by omega) (by omega) (by omega), set_take _ _ _ hi]
    simp [marksJ]
    omega

theorem markBoard_eq (a b c : Int) (x : List S27) (hx : x.length ≤ 1099511627776) (k : Nat) (hk : x.length < k) : laws_markBoard.f k a b c x 1 = some (1 + 2 * (x.length : Int), marksJ 1 x.length) := by
  unfold laws_markBoard.f laws_markJumpS.f
  have := markJumpS_l0 x.length 0 k x 1 (by omega) hx (by omega) (by omega) hk
  rw [show ((0 : Nat) : Int) = 0 from rfl] at this
  rw [this]
  simp

end Go.Proofs.Ytkobjjadojpjfaa.Pr
