/- The statement over numbers and lists that the law FnExactBoardText comes to, and the walk that leads there. -/
import Derived.Test.YtnbleinhabllnaaDoorOpen
import Derived.Test.YtnbleinhabllnaaDoorFLawsFnExactBoardText
namespace Go.Proofs.YtnbleinhabllnaaDoor.Pr
open Go.RowKit Go.Proofs.YtnbleinhabllnaaDoorW.PrintWords Go.Proofs.YtnbleinhabllnaaDoorW.PrintLast
set_option linter.unusedVariables false

def laws_FnExactBoardText.Pure : Prop := ∀ (a0_0 a0_1 a0_2 : Int) (l0_3 : List S81), (Lit.int .i64 a0_0).wf = true → (Lit.int .i64 a0_1).wf = true → (Lit.int .i64 a0_2).wf = true → l0_3.length ≤ 9223372036854775807 → wfJ l0_3 → ∃ k, laws_FnExactBoardText.f k a0_0 a0_1 a0_2 l0_3 = some true

theorem laws_FnExactBoardText.walk (P : laws_FnExactBoardText.Pure) (a0_0 a0_1 a0_2 : Int) (A0_3 : Option Addr) (c0_3 : Nat) (l0_3 : List S81) (w : World) (hr0_3 : Kd.C k81 w A0_3 l0_3.length l0_3) (hc0_3 : l0_3.length ≤ c0_3) (w0_0 : (Lit.int .i64 a0_0).wf = true) (w0_1 : (Lit.int .i64 a0_1).wf = true) (w0_2 : (Lit.int .i64 a0_2).wf = true) (m0_3 : l0_3.length ≤ 9223372036854775807) (w0_3 : wfJ l0_3) (ht : Pr.TabW w) :
    Calls Tryd.prog 5 #[.agg #[.int .i64 a0_0, .int .i64 a0_1, .int .i64 a0_2, .slice A0_3 l0_3.length c0_3]] w fun e w' => e = .returned (.bool true) ∧ Below w.heap.size w w' := by
  obtain ⟨k, h⟩ := P a0_0 a0_1 a0_2 l0_3 w0_0 w0_1 w0_2 m0_3 w0_3
  refine (laws_FnExactBoardText.calls k a0_0 a0_1 a0_2 A0_3 c0_3 l0_3 true w hr0_3 hc0_3 h ht).mono ?_
  rintro e w' ⟨rfl, hd⟩
  exact ⟨rfl, hd⟩

end Go.Proofs.YtnbleinhabllnaaDoor.Pr
