/- The statement over numbers and lists that the law FnExactBestLadder comes to, and the walk that leads there. -/
import Derived.Test.YtkobjjadojpjfaaOpen
import Derived.Test.YtkobjjadojpjfaaFLawsFnExactBestLadder
namespace Go.Proofs.Ytkobjjadojpjfaa.Pr
open Go.RowKit Go.Proofs.YtkobjjadojpjfaaW.PrintWords Go.Proofs.YtkobjjadojpjfaaW.PrintLast
set_option linter.unusedVariables false

def laws_FnExactBestLadder.Pure : Prop := ∀ (a0_0 a0_1 a0_2 : Int) (l0_3 : List S82), (Lit.int .i64 a0_0).wf = true → (Lit.int .i64 a0_1).wf = true → (Lit.int .i64 a0_2).wf = true → l0_3.length ≤ 9223372036854775807 → wfJ l0_3 → ∃ k, laws_FnExactBestLadder.f k a0_0 a0_1 a0_2 l0_3 = some true

theorem laws_FnExactBestLadder.walk (P : laws_FnExactBestLadder.Pure) (a0_0 a0_1 a0_2 : Int) (A0_3 : Option Addr) (c0_3 : Nat) (l0_3 : List S82) (w : World) (hr0_3 : Kd.C k82 w A0_3 l0_3.length l0_3) (hc0_3 : l0_3.length ≤ c0_3) (w0_0 : (Lit.int .i64 a0_0).wf = true) (w0_1 : (Lit.int .i64 a0_1).wf = true) (w0_2 : (Lit.int .i64 a0_2).wf = true) (m0_3 : l0_3.length ≤ 9223372036854775807) (w0_3 : wfJ l0_3) :
    Calls Try.prog 3 #[.agg #[.int .i64 a0_0, .int .i64 a0_1, .int .i64 a0_2, .slice A0_3 l0_3.length c0_3]] w fun e w' => e = .returned (.bool true) ∧ Below w.heap.size w w' := by
  obtain ⟨k, h⟩ := P a0_0 a0_1 a0_2 l0_3 w0_0 w0_1 w0_2 m0_3 w0_3
  refine (laws_FnExactBestLadder.calls k a0_0 a0_1 a0_2 A0_3 c0_3 l0_3 true w hr0_3 hc0_3 h).mono ?_
  rintro e w' ⟨rfl, hd⟩
  exact ⟨rfl, hd⟩

end Go.Proofs.Ytkobjjadojpjfaa.Pr
