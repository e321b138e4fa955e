-- A text of the machine side, written by wip/gen.py of this repo out of the translation. Not trusted: Lean checks it.
import Derived.Test.YteiceakgiilbgaaF0
import Derived.Test.YteiceakgiilbgaaFImplChoose
namespace Go.Proofs.Yteiceakgiilbgaa.Pr
open Go.RowKit Go.Proofs.YteiceakgiilbgaaW.PrintWords Go.Proofs.YteiceakgiilbgaaW.PrintLast Go.Proofs.YteiceakgiilbgaaW.PrintMore
attribute [local go_sem] max2_int min2_int max_two min_two max_three min_three max_four min_four   -- for this text's walks alone
set_option linter.unusedVariables false
set_option linter.unusedSimpArgs false

/-! ### waysRound: function 90 -/
mutual
def waysRound.l0 : Nat → Int → Int → Int → Int → List (List Int) → List (List Int) → Int → Int → Option ((List (List Int)))
 | 0, _, _, _, _, _, _, _, _ => none
 | k + 1, x0, x1, x2, x3, x4, x10, x48, x49 => if x49 < x48 then (if 0 ≤ (wrap64 ((wrap64 (x0 * x1)) + 1)) then (if (wrap64 ((wrap64 (x0 * x1)) + 1) : Int).toNat ≤ 35184372088832 then (if 0 ≤ x49 then (if x49 < (x10.length : Int) then (waysRound.l0 k x0 x1 x2 x3 x4 (x10.set (x49 : Int).toNat (List.replicate (wrap64 ((wrap64 (x0 * x1)) + 1) : Int).toNat 0)) x48 (wrap64 (x49 + 1))) else (none)) else (none)) else (none)) else (none)) else (waysRound.l1 k x0 x2 x3 x10 x4 (x4.length : Int) 0)
def waysRound.l1 : Nat → Int → Int → Int → List (List Int) → List (List Int) → Int → Int → Option ((List (List Int)))
 | 0, _, _, _, _, _, _, _ => none
 | k + 1, x0, x2, x3, x10, x61, x62, x63 => if x63 < x62 then (if 0 ≤ x63 then (if x63 < (x61.length : Int) then (waysRound.l2 k x0 x2 x3 x10 x63 x61 x62 x63 (rd_L1 x61 x63) ((rd_L1 x61 x63).length : Int) 0) else (none)) else (none)) else (some x10)
def waysRound.l2 : Nat → Int → Int → Int → List (List Int) → Int → List (List Int) → Int → Int → List Int → Int → Int → Option ((List (List Int)))
 | 0, _, _, _, _, _, _, _, _, _, _, _ => none
 | k + 1, x0, x2, x3, x10, x12, x61, x62, x63, x68, x69, x70 => if x70 < x69 then (if 0 ≤ x70 then (if x70 < (x68.length : Int) then (if (rd x68 x70) = 0 then (waysRound.l2 k x0 x2 x3 x10 x12 x61 x62 x63 x68 x69 (wrap64 (x70 + 1))) else (waysRound.l3 k x0 x2 x3 x10 x12 x70 (rd x68 x70) 0 x61 x62 x63 x68 x69 x70)) else (none)) else (none)) else (waysRound.l1 k x0 x2 x3 x10 x61 x62 (wrap64 (x63 + 1)))
def waysRound.l3 : Nat → Int → Int → Int → List (List Int) → Int → Int → Int → Int → List (List Int) → Int → Int → List Int → Int → Int → Option ((List (List Int)))
 | 0, _, _, _, _, _, _, _, _, _, _, _, _, _, _ => none
 | k + 1, x0, x2, x3, x10, x12, x14, x15, x16, x61, x62, x63, x68, x69, x70 => if (wrap64 (x12 + x16)) ≤ x0 then (if 0 ≤ (wrap64 (x12 + x16)) then (if (wrap64 (x12 + x16)) < (x10.length : Int) then (if 0 ≤ (wrap64 (x14 + (wrap64 (x3 * (mx 0 (mn x16 (wrap64 (x2 - x12)))))))) then (if (wrap64 (x14 + (wrap64 (x3 * (mx 0 (mn x16 (wrap64 (x2 - x12)))))))) < ((rd_L1 x10 (wrap64 (x12 + x16))).length : Int) then ((impl_choose.f k (wrap64 (x0 - x12)) x16).bind fun tBO => (waysRound.l3 k x0 x2 x3 (x10.set ((wrap64 (x12 + x16)) : Int).toNat ((rd_L1 x10 (wrap64 (x12 + x16))).set ((wrap64 (x14 + (wrap64 (x3 * (mx 0 (mn x16 (wrap64 (x2 - x12)))))))) : Int).toNat (wrap64 ((rd (rd_L1 x10 (wrap64 (x12 + x16))) (wrap64 (x14 + (wrap64 (x3 * (mx 0 (mn x16 (wrap64 (x2 - x12))))))))) + (wrap64 (x15 * tBO)))))) x12 x14 x15 (wrap64 (x16 + 1)) x61 x62 x63 x68 x69 x70)) else (none)) else (none)) else (none)) else (none)) else (waysRound.l2 k x0 x2 x3 x10 x12 x61 x62 x63 x68 x69 (wrap64 (x70 + 1)))
end
def waysRound.f (k : Nat) (a0 : Int) (a1 : Int) (a2 : Int) (a3 : Int) (l4 : List (List Int)) : Option ((List (List Int))) := if 0 ≤ (wrap64 (a0 + 1)) then (if (wrap64 (a0 + 1) : Int).toNat ≤ 11728124029610 then ((some (List.replicate (wrap64 (a0 + 1) : Int).toNat [] : List (List Int))).bind fun yBD => (waysRound.l0 k a0 a1 a2 a3 l4 yBD (yBD.length : Int) 0)) else (none)) else (none)
def waysRound.T28 : Bool × List (List Nat × List Nat) := (true, [([], []), ([], []), ([], []), ([1, 2], [1, 2]), ([0, 3], [0, 3]), ([4], [4]), ([], []), ([], []), ([6, 7], [6, 7]), ([5, 8], [5, 8]), ([9], [9]), ([], []), ([], []), ([], []), ([12, 13], [12, 13]), ([], []), ([14, 15], [14, 15]), ([11, 16], [11, 16]), ([10, 17], [10, 17]), ([5, 8, 0, 1, 2, 3, 4, 5, 6, 7, 8, 9, 10, 11, 12, 13, 14, 15, 16, 17, 18], [5, 8]), ([19, 18, 16, 0, 1, 2, 3, 4, 5, 6, 7, 8, 9, 10, 11, 12, 13, 14, 15, 16, 17, 18], [18, 19])])
def waysRound.B28 : List Nat := [0, 0, 0, 6, 15, 31, 0, 0, 192, 511, 1023, 0, 0, 0, 12288, 0, 61440, 129024, 262143, 524287, 1048575]
theorem waysRound.tab28 : rtab .any (opsOf Try.f68 28) = waysRound.T28 := by kernel_rfl
theorem waysRound.bits28 : waitsOk waysRound.T28.2 waysRound.B28 = true := by kernel_rfl

end Go.Proofs.Yteiceakgiilbgaa.Pr
