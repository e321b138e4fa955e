/- Proved here: the statements' own marks of boards; the conditions are lengths. -/
import Derived.Test.YtkobjjadojpjfaaPL1M
import Derived.Test.YtkobjjadojpjfaaFGH
namespace Go.Proofs.Ytkobjjadojpjfaa.Pr
open Go.RowKit Go.Proofs.YtkobjjadojpjfaaW.PrintWords Go.Proofs.YtkobjjadojpjfaaW.PrintLast Go.Proofs.YtkobjjadojpjfaaW.PrintMore
set_option linter.unusedVariables false
set_option linter.unusedSimpArgs false

theorem heldJumpS_l0 : ∀ (d i k : Nat) (p : List S27) (m : Int), p.length = i → i + d ≤ 1099511627776 → 0 ≤ m → m + 2 * d ≤ 4611686018427387904 → d < k →
    laws_heldJumpS.l0 k (p ++ marksJ m d) m (i : Int) = some (m + 2 * d)
  | 0, i, k, p, m, h1, h2, h4, h5, h3 => by
    obtain ⟨k, rfl⟩ : ∃ m, k = m + 1 := ⟨k - 1, by omega⟩
    simp only [laws_heldJumpS.l0]
    rw [if_neg (nat_nlt (by simp [marksJ]; omega))]
    simp
  | d + 1, i, k, p, m, h1, h2, h4, h5, h3 => by
    obtain ⟨k, rfl⟩ : ∃ m, k = m + 1 := ⟨k - 1, by omega⟩
    have hi : i < (p ++ marksJ m (d + 1)).length := by simp [marksJ_length]; omega
    simp only [laws_heldJumpS.l0]
    have e : rd_T27 (p ++ marksJ m (d + 1)) (i : Int) = ⟨m, m + 1⟩ := by
      rw [rdJ_at hi, List.getElem_append_right (by omega)]
      simp [h1, marksJ]
    rw [if_pos (nat_lt hi), if_pos (nat_nn i), e, if_pos rfl, w64 (m + 1) (by omega) (by omega), if_pos rfl, w64_succ (by omega), w64 (m + 1 + 1) (by omega) (by omega)]
    have := heldJumpS_l0 d (i + 1) k (p ++ [⟨m, m + 1⟩]) (m + 1 + 1) (by simp; omega) (by omega) (by omega) (by omega) (by omega)
    rw [show p ++ marksJ m (d + 1) = p ++ [⟨m, m + 1⟩] ++ marksJ (m + 1 + 1) d by simp [marksJ], this]
    congr 1
    omega

theorem heldBoard_eq (a b c : Int) (n : Nat) (hx : n ≤ 1099511627776) (k : Nat) (hk : n < k) : laws_heldBoard.f k a b c (marksJ 1 n) 1 = some (1 + 2 * (n : Int)) := by
  unfold laws_heldBoard.f laws_heldJumpS.f
  have := heldJumpS_l0 n 0 k [] 1 rfl (by omega) (by omega) (by omega) hk
  rw [List.nil_append, show ((0 : Nat) : Int) = 0 from rfl] at this
  rw [this]
  simp
  omega

theorem heldJumpS_eq (n : Nat) (hx : n ≤ 1099511627776) (k : Nat) (hk : n < k) : laws_heldJumpS.f k (marksJ 1 n) 1 = some (1 + 2 * (n : Int)) := by
  unfold laws_heldJumpS.f
  have := heldJumpS_l0 n 0 k [] 1 rfl (by omega) (by omega) (by omega) hk
  rw [List.nil_append, show ((0 : Nat) : Int) = 0 from rfl] at this
  exact this

theorem markJumpS_eq (x : List S27) (hx : x.length ≤ 1099511627776) (k : Nat) (hk : x.length < k) : laws_markJumpS.f k x 1 = some (1 + 2 * (x.length : Int), marksJ 1 x.length) := by
  unfold laws_markJumpS.f
  have := markJumpS_l0 x.length 0 k x 1 (by omega) hx (by omega) (by omega) hk
  rw [show ((0 : Nat) : Int) = 0 from rfl] at this
  rw [this]
  simp

theorem eqJumpS_same (l : List S27) (hl : l.length ≤ 9223372036854775806) (k : Nat) (hk : l.length < k) : laws_eqJumpS.f k l l = some true := by
  unfold laws_eqJumpS.f
  rw [if_pos rfl]
  obtain ⟨r, hr, hr2⟩ := eqJumpS_l0 l l hl rfl l.length 0 k (by omega) hk
  rw [show ((0 : Nat) : Int) = 0 from rfl] at hr
  rw [hr, hr2.mpr rfl]

end Go.Proofs.Ytkobjjadojpjfaa.Pr
