/- Proved here: what strconv.Itoa answers, its table lying in the world as the library lays it; no other condition. -/
import Derived.Test.YtnbleinhabllnaaDoorF0
import Derived.Test.YtnbleinhabllnaaDoorHShelf
import Derived.Lib.AppendIntMem
namespace Go.Proofs.YtnbleinhabllnaaDoor.Pr
open Go.RowKit Go.Proofs.YtnbleinhabllnaaDoorW.PrintWords Go.Proofs.YtnbleinhabllnaaDoorW.PrintLast Go.Proofs.YtnbleinhabllnaaDoorW.PrintMore
set_option linter.unusedVariables false
set_option linter.unusedSimpArgs false

/-- the table of powers of ten lies in the world -/
abbrev TabW (w : World) : Prop := Lib.TabIs Tryd.prog w "internal/strconv.uint64pow10" .u64 Lib.pow10Tab

theorem tab_up {w W : World} (h : TabW w) (hb : Below w.heap.size w W) : TabW W := Lib.tabBelow_of_tabIs h W hb

def strconv_Itoa_52.f (n : Int) : Option ByteArray := if -9223372036854775808 ≤ n ∧ n ≤ 9223372036854775807 then some ⟨(Lib.itoa n).toArray⟩ else none

theorem strconv_Itoa_52.calls (n : Int) (r : ByteArray) (w : World) (h : strconv_Itoa_52.f n = some r) (ht : TabW w) :
    Calls Tryd.prog 52 #[.int .i64 n] w fun e w' => e = .returned (.string r) ∧ Below w.heap.size w w' := by
  unfold strconv_Itoa_52.f at h
  by_cases hn : -9223372036854775808 ≤ n ∧ n ≤ 9223372036854775807
  · rw [if_pos hn] at h
    obtain rfl := Option.some.inj h
    refine (Go.Proofs.Tryd.strconv_Itoa n hn.1 hn.2 w ht).mono ?_
    rintro e w' ⟨rfl, k, os, rfl⟩
    exact ⟨rfl, Lib.below_grow _ _ (Nat.le_refl _) _ _⟩
  · rw [if_neg hn] at h
    cases h

end Go.Proofs.YtnbleinhabllnaaDoor.Pr
