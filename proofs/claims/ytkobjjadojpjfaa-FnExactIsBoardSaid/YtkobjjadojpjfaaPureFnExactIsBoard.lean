/- Proved here: the law FnExactIsBoard answers true at every board that comes in; no other condition. -/
import Derived.Test.YtkobjjadojpjfaaSFnExactIsBoard
import Derived.Test.YtkobjjadojpjfaaPL2
namespace Go.Proofs.Ytkobjjadojpjfaa.Pure
open Go.RowKit Go.Proofs.Ytkobjjadojpjfaa.Pr Go.Proofs.YtkobjjadojpjfaaW.PrintWords Go.Proofs.YtkobjjadojpjfaaW.PrintLast

theorem FnExactIsBoard : laws_FnExactIsBoard.Pure := by
  intro a b c l wa wb wc hm hw
  by_cases hlen : l.length ≤ 1048576
  · refine ⟨1048700, ?_⟩
    have hT := toBoard_eq a b c l hlen 1048700 (by omega)
    have hE := eqBoard_same a b c (l.map conv) (by rw [List.length_map]; omega) 1048700 (by rw [List.length_map]; omega)
    unfold laws_FnExactIsBoard.f spec_IsBoard.f
    rw [szBoard_eq a b c l _ (by omega) (by omega) hm, hT]
    simp only [Option.bind_some]
    rw [sqGood_eq _ _ _ _ _ (by omega), isBoard_eq _ _ _ _ _ (by omega)]
    simp only [Option.bind_some]
    rw [hE, if_neg (by split <;> omega)]
    simp
  · refine ⟨0, ?_⟩
    unfold laws_FnExactIsBoard.f
    rw [szBoard_eq a b c l _ (by omega) (by omega) hm]
    simp only [Option.bind_some]
    rw [if_pos (by rw [if_neg (by omega)]; omega)]

end Go.Proofs.Ytkobjjadojpjfaa.Pure
