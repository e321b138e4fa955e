/- Proved here: the statements' own marks of races; the conditions are lengths. -/
import Derived.Test.YtkobjjadojpjfaaPL7
import Derived.Test.YtkobjjadojpjfaaPL1H
import Derived.Test.YtkobjjadojpjfaaFLawsHeldRace
namespace Go.Proofs.Ytkobjjadojpjfaa.Pr
open Go.RowKit Go.Proofs.YtkobjjadojpjfaaW.PrintWords Go.Proofs.YtkobjjadojpjfaaW.PrintLast Go.Proofs.YtkobjjadojpjfaaW.PrintMore

theorem heldRace_eq (a b c : Int) (n : Nat) (e f g : Int) (hx : n ≤ 1099511627776) (k : Nat) (hk : n < k) : laws_heldRace.f k a b c (marksJ 1 n) e f g 1 = some (1 + 2 * (n : Int)) := by
  unfold laws_heldRace.f
  rw [heldBoard_eq a b c n hx k hk]
  simp only [Option.bind_some]
  rw [if_neg (by omega)]

end Go.Proofs.Ytkobjjadojpjfaa.Pr
