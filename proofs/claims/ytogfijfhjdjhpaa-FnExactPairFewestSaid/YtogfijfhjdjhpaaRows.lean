/-
  No cell of these rows narrows 'for every input' (looked for: loops, veiled, ifaces, maps, wideKeys, modest, calm, conditions, laid).
  DERIVED. THE GIVEN ROWS OF THIS SEAT. 4 by the template 'for every input the law returns true; each argument reads behind the call as it read before'; 0 by the template 'total and deterministic' (their statements: YtogfijfhjdjhpaaTotals.lean).
  GIVEN WITH THE SEED: the statements are not yours to turn. If you find one false, say at which input.
  Laid BY PROGRAM, IN A SANDBOX (cutbox-rows.mjs): the forced cells as the released guide's own fill.sh prints them over the translation 21c583bc8d5d306e… (all of the seat's roots in one cut). By AI agents, Wed Nov 11 2026. No macro, syntax, notation, axiom, sorry.
-/
import Derived.Test.YtogfijfhjdjhpaaChecked
import GoSem.Claim
import GoSem.ClaimJoined
import GoSem.ClaimMapViews
import Derived.JoinedTies
import Derived.KernelRfl
namespace Go.Proofs.Ytogfijfhjdjhpaa
/- THE CELL 'sum', in the pinned program and in every row, IS THE sha256 OF THE DUMP (.gsa) THAT YtogfijfhjdjhpaaProg.lean LOADS. Nothing in Lean hashes anything: it is a label: what it is worth is what the hold of that sum in a sandbox is worth. -/
noncomputable def Try.pinned : Pinned := { name := "ytogfijfhjdjhpaa", sum := "21c583bc8d5d306e0aa1cfde76e78d275a31b1fb00decad0b13b98625c17caa7", checked := Try.checked }
namespace Rows
def none {H : Type} : Left H := { results := [], args := [] }

/-- 'laws.FnExactPairFewest': WHATEVER THE INPUT: true; the input reads as it did. -/
def fnExactPairFewestSpec : ChangeSpec := { name := "fnExactPairFewest", fn := fun _ => fun
  | [d1, d2, d3, d4] => { results := [.lit (.bool true)], args := [d1, d2, d3, d4] }
  | _ => none }
def fnExactPairFewestRow : OpenClaim := { program := "ytogfijfhjdjhpaa", sum := "21c583bc8d5d306e0aa1cfde76e78d275a31b1fb00decad0b13b98625c17caa7", func := "loop.example/g01306/laws.FnExactPairFewest", spec := "fnExactPairFewest", unfollowed := true, recurses := true, apart := false }
def FnExactPairFewestSaid : Prop := fnExactPairFewestRow.holds Try.pinned (OpenSpec.ofChange fnExactPairFewestSpec)

/-- ITS FALSE NEIGHBOUR: 'it returns false'. Refute it at one input. -/
def fnExactPairFewestWrong : ChangeSpec := { name := "fnExactPairFewest", fn := fun _ => fun
  | [d1, d2, d3, d4] => { results := [.lit (.bool false)], args := [d1, d2, d3, d4] }
  | _ => none }
def FnExactPairFewestWrongFalsely : Prop := fnExactPairFewestRow.holds Try.pinned (OpenSpec.ofChange fnExactPairFewestWrong)

/-- 'laws.FnExactPairCountFewest': WHATEVER THE INPUT: true; the input reads as it did. -/
def fnExactPairCountFewestSpec : ChangeSpec := { name := "fnExactPairCountFewest", fn := fun _ => fun
  | [d1, d2, d3, d4] => { results := [.lit (.bool true)], args := [d1, d2, d3, d4] }
  | _ => none }
def fnExactPairCountFewestRow : OpenClaim := { program := "ytogfijfhjdjhpaa", sum := "21c583bc8d5d306e0aa1cfde76e78d275a31b1fb00decad0b13b98625c17caa7", func := "loop.example/g01306/laws.FnExactPairCountFewest", spec := "fnExactPairCountFewest", unfollowed := true, recurses := true, apart := false }
def FnExactPairCountFewestSaid : Prop := fnExactPairCountFewestRow.holds Try.pinned (OpenSpec.ofChange fnExactPairCountFewestSpec)

/-- ITS FALSE NEIGHBOUR: 'it returns false'. Refute it at one input. -/
def fnExactPairCountFewestWrong : ChangeSpec := { name := "fnExactPairCountFewest", fn := fun _ => fun
  | [d1, d2, d3, d4] => { results := [.lit (.bool false)], args := [d1, d2, d3, d4] }
  | _ => none }
def FnExactPairCountFewestWrongFalsely : Prop := fnExactPairCountFewestRow.holds Try.pinned (OpenSpec.ofChange fnExactPairCountFewestWrong)

/-- 'laws.FnExactPairFirstThrows': WHATEVER THE INPUT: true; the input reads as it did. -/
def fnExactPairFirstThrowsSpec : ChangeSpec := { name := "fnExactPairFirstThrows", fn := fun _ => fun
  | [d1, d2, d3, d4] => { results := [.lit (.bool true)], args := [d1, d2, d3, d4] }
  | _ => none }
def fnExactPairFirstThrowsRow : OpenClaim := { program := "ytogfijfhjdjhpaa", sum := "21c583bc8d5d306e0aa1cfde76e78d275a31b1fb00decad0b13b98625c17caa7", func := "loop.example/g01306/laws.FnExactPairFirstThrows", spec := "fnExactPairFirstThrows", unfollowed := true, recurses := true, apart := false }
def FnExactPairFirstThrowsSaid : Prop := fnExactPairFirstThrowsRow.holds Try.pinned (OpenSpec.ofChange fnExactPairFirstThrowsSpec)

/-- ITS FALSE NEIGHBOUR: 'it returns false'. Refute it at one input. -/
def fnExactPairFirstThrowsWrong : ChangeSpec := { name := "fnExactPairFirstThrows", fn := fun _ => fun
  | [d1, d2, d3, d4] => { results := [.lit (.bool false)], args := [d1, d2, d3, d4] }
  | _ => none }
def FnExactPairFirstThrowsWrongFalsely : Prop := fnExactPairFirstThrowsRow.holds Try.pinned (OpenSpec.ofChange fnExactPairFirstThrowsWrong)

/-- 'laws.FnExactPairStates': WHATEVER THE INPUT: true; the input reads as it did. -/
def fnExactPairStatesSpec : ChangeSpec := { name := "fnExactPairStates", fn := fun _ => fun
  | [d1, d2, d3, d4] => { results := [.lit (.bool true)], args := [d1, d2, d3, d4] }
  | _ => none }
def fnExactPairStatesRow : OpenClaim := { program := "ytogfijfhjdjhpaa", sum := "21c583bc8d5d306e0aa1cfde76e78d275a31b1fb00decad0b13b98625c17caa7", func := "loop.example/g01306/laws.FnExactPairStates", spec := "fnExactPairStates", unfollowed := true, recurses := true, apart := false }
def FnExactPairStatesSaid : Prop := fnExactPairStatesRow.holds Try.pinned (OpenSpec.ofChange fnExactPairStatesSpec)

/-- ITS FALSE NEIGHBOUR: 'it returns false'. Refute it at one input. -/
def fnExactPairStatesWrong : ChangeSpec := { name := "fnExactPairStates", fn := fun _ => fun
  | [d1, d2, d3, d4] => { results := [.lit (.bool false)], args := [d1, d2, d3, d4] }
  | _ => none }
def FnExactPairStatesWrongFalsely : Prop := fnExactPairStatesRow.holds Try.pinned (OpenSpec.ofChange fnExactPairStatesWrong)

/- THE SECOND FORM. 'bulk': how many values and letters a reading holds, each counted each time it is reached (what is shared counts as often as it is met; a slice's spare places count too). A statement '..UptoSaid' is the law's where the arguments, and the package variables that the reading takes, are together of bulk at most 1048576: NARROWER than '..Said'. Prove '..Said' where nothing that the law and all that it calls make is longer than what came in: it says more and counts as full. Else prove '..UptoSaid'. A law counts once. -/
mutual
def uptoBulk {H : Type} : DataW H → Nat
  | .lit (.string bytes) => bytes.length + 1
  | .lit _ => 1
  | .nil => 1
  | .ptr d => uptoBulk d + 1
  | .slice elems spare => uptoBulkAll elems + uptoBulkAll spare + 1
  | .agg parts => uptoBulkAll parts + 1
  | .iface _ d => uptoBulk d + 1
  | .map entries => uptoBulkEntries entries + 1
  | .held _ => 1
def uptoBulkAll {H : Type} : List (DataW H) → Nat
  | [] => 0
  | d :: r => uptoBulk d + uptoBulkAll r
def uptoBulkEntries {H : Type} : List (Lit × DataW H) → Nat
  | [] => 0
  | x :: r => uptoBulkEntry x + uptoBulkEntries r
def uptoBulkEntry {H : Type} : Lit × DataW H → Nat
  | (.string bytes, d) => bytes.length + uptoBulk d + 1
  | (_, d) => uptoBulk d + 1
 end
def uptoSmall : (H : Type) → List (DataW H) → Bool := fun _ ds => decide (uptoBulkAll ds ≤ 1048576)
def OpenSpec.upto (s : _root_.Go.ChangeSpec) : _root_.Go.OpenSpec := { _root_.Go.OpenSpec.ofChange s with cond := some uptoSmall }

/-- 'laws.FnExactPairFewest', WHERE WHAT IT READS IS OF BULK AT MOST 1048576: true; the input reads as it did. -/
def fnExactPairFewestUptoRow : OpenClaim := { program := "ytogfijfhjdjhpaa", sum := "21c583bc8d5d306e0aa1cfde76e78d275a31b1fb00decad0b13b98625c17caa7", func := "loop.example/g01306/laws.FnExactPairFewest", spec := "fnExactPairFewest", unfollowed := true, recurses := true, apart := false, narrowed := true }
def FnExactPairFewestUptoSaid : Prop := fnExactPairFewestUptoRow.holds Try.pinned (OpenSpec.upto fnExactPairFewestSpec)

/-- 'laws.FnExactPairCountFewest', WHERE WHAT IT READS IS OF BULK AT MOST 1048576: true; the input reads as it did. -/
def fnExactPairCountFewestUptoRow : OpenClaim := { program := "ytogfijfhjdjhpaa", sum := "21c583bc8d5d306e0aa1cfde76e78d275a31b1fb00decad0b13b98625c17caa7", func := "loop.example/g01306/laws.FnExactPairCountFewest", spec := "fnExactPairCountFewest", unfollowed := true, recurses := true, apart := false, narrowed := true }
def FnExactPairCountFewestUptoSaid : Prop := fnExactPairCountFewestUptoRow.holds Try.pinned (OpenSpec.upto fnExactPairCountFewestSpec)

/-- 'laws.FnExactPairFirstThrows', WHERE WHAT IT READS IS OF BULK AT MOST 1048576: true; the input reads as it did. -/
def fnExactPairFirstThrowsUptoRow : OpenClaim := { program := "ytogfijfhjdjhpaa", sum := "21c583bc8d5d306e0aa1cfde76e78d275a31b1fb00decad0b13b98625c17caa7", func := "loop.example/g01306/laws.FnExactPairFirstThrows", spec := "fnExactPairFirstThrows", unfollowed := true, recurses := true, apart := false, narrowed := true }
def FnExactPairFirstThrowsUptoSaid : Prop := fnExactPairFirstThrowsUptoRow.holds Try.pinned (OpenSpec.upto fnExactPairFirstThrowsSpec)

/-- 'laws.FnExactPairStates', WHERE WHAT IT READS IS OF BULK AT MOST 1048576: true; the input reads as it did. -/
def fnExactPairStatesUptoRow : OpenClaim := { program := "ytogfijfhjdjhpaa", sum := "21c583bc8d5d306e0aa1cfde76e78d275a31b1fb00decad0b13b98625c17caa7", func := "loop.example/g01306/laws.FnExactPairStates", spec := "fnExactPairStates", unfollowed := true, recurses := true, apart := false, narrowed := true }
def FnExactPairStatesUptoSaid : Prop := fnExactPairStatesUptoRow.holds Try.pinned (OpenSpec.upto fnExactPairStatesSpec)

end Rows
end Go.Proofs.Ytogfijfhjdjhpaa
