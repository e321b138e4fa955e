/- Proved here: what the statements' own helpers answer at races, and what both sides ask of a race; the conditions are lengths. -/
import Derived.Test.YtkobjjadojpjfaaPL3
import Derived.Test.YtkobjjadojpjfaaPL1M
import Derived.Test.YtkobjjadojpjfaaFLawsSzRace
import Derived.Test.YtkobjjadojpjfaaFLawsToRace
import Derived.Test.YtkobjjadojpjfaaFLawsEqRace
import Derived.Test.YtkobjjadojpjfaaFLawsMarkRace
import Derived.Test.YtkobjjadojpjfaaFSpecRaGood
import Derived.Test.YtkobjjadojpjfaaFImplIsRace
namespace Go.Proofs.Ytkobjjadojpjfaa.Pr
open Go.RowKit Go.Proofs.YtkobjjadojpjfaaW.PrintWords Go.Proofs.YtkobjjadojpjfaaW.PrintLast Go.Proofs.YtkobjjadojpjfaaW.PrintMore
set_option linter.unusedVariables false
set_option linter.unusedSimpArgs false

theorem szRace_eq (a b c : Int) (l : List S82) (e f g : Int) (m : Int) (h0 : 0 ≤ m) (h1 : m ≤ 1048576) (hl : l.length ≤ 9223372036854775807) :
    laws_szRace.f a b c l e f g m = some (if (l.length : Int) ≤ m then m - l.length else -1) := by
  unfold laws_szRace.f
  rw [szBoard_eq a b c l m h0 h1 hl]
  simp only [Option.bind_some]
  by_cases h : (l.length : Int) ≤ m
  · rw [if_pos h, if_neg (by omega)]
  · rw [if_neg h, if_pos (by omega)]

theorem toRace_eq (a b c : Int) (l : List S82) (e f g : Int) (hl : l.length ≤ 1048576) (k : Nat) (hk : l.length < k) : laws_toRace.f k a b c l e f g = some (a, b, c, l.map conv, e, f, g) := by
  unfold laws_toRace.f
  rw [toBoard_eq a b c l hl k hk]
  rfl

theorem eqRace_same (a b c : Int) (l : List S27) (e f g : Int) (hl : l.length ≤ 9223372036854775806) (k : Nat) (hk : l.length < k) : laws_eqRace.f k a b c l e f g a b c l e f g = some true := by
  unfold laws_eqRace.f
  rw [eqBoard_same a b c l hl k hk]
  simp

theorem markRace_eq (a b c : Int) (x : List S27) (e f g : Int) (hx : x.length ≤ 1099511627776) (k : Nat) (hk : x.length < k) : laws_markRace.f k a b c x e f g 1 = some (1 + 2 * (x.length : Int), marksJ 1 x.length) := by
  unfold laws_markRace.f
  rw [markBoard_eq a b c x hx k hk]
  rfl

/-! #### what is asked of a race -/
def goodR (a b c : Int) (l : List S27) (e f g : Int) : Bool := good a b c l && (decide (a ≤ 40) && (decide (0 ≤ e ∧ e ≤ 1) && (sqr a l f && (sqr a l g && (decide (f < a) || decide (g < a))))))

theorem raGood_eq (a b c : Int) (l : List S27) (e f g : Int) (k : Nat) (hk : 100 ≤ k) : spec_raGood.f k a b c l e f g = some (goodR a b c l e f g) := by
  unfold spec_raGood.f goodR
  rw [sqGood_eq a b c l k hk, l1In_some]
  simp only [Option.bind_some]
  cases h : good a b c l with
  | false => rfl
  | true =>
    have B := Board.of_good h
    rw [if_pos rfl, sqSquare_eq B f k (by omega), sqSquare_eq B g k (by omega)]
    simp only [Option.bind_some]
    by_cases h1 : a ≤ 40
    · rw [if_pos h1, decide_eq_true h1]
      cases h2 : decide (0 ≤ e ∧ e ≤ 1) <;> cases h3 : sqr a l f <;> cases h4 : sqr a l g <;> by_cases h5 : f < a <;> simp [h5]
    · rw [if_neg h1, decide_eq_false h1]; rfl

theorem isRace_eq (a b c : Int) (l : List S27) (e f g : Int) (k : Nat) (hk : 100 ≤ k) : impl_IsRace.f k a b c l e f g = some (goodR a b c l e f g) := by
  unfold impl_IsRace.f goodR
  rw [areSquares_eq a b c l _ k hk, two_squares, within_some]
  simp only [Option.bind_some]
  cases h : good a b c l with
  | false => rfl
  | true =>
    have B := Board.of_good h
    by_cases h1 : a ≤ 40
    · rw [decide_eq_true h1]
      cases h3 : sqr a l f with
      | false => simp
      | true =>
        cases h4 : sqr a l g with
        | false => simp
        | true =>
          have hf := sqr_le h3
          have hg := sqr_le h4
          cases h2 : decide (0 ≤ e ∧ e ≤ 1) with
          | false => simp
          | true =>
            by_cases h5 : f = a
            · subst h5
              rw [if_pos (by rfl), if_pos h1, if_pos rfl, if_pos rfl]
              congr 1
              by_cases h6 : g = f
              · subst h6; simp
              · have : g < f := by omega
                simp [this]; omega
            · rw [if_pos (by rfl), if_pos h1, if_pos rfl, if_neg h5]
              have : f < a := by omega
              simp [this]
    · rw [decide_eq_false h1]
      cases h3 : (true && (sqr a l f && sqr a l g)) with
      | false => simp
      | true => simp [h1]

end Go.Proofs.Ytkobjjadojpjfaa.Pr
