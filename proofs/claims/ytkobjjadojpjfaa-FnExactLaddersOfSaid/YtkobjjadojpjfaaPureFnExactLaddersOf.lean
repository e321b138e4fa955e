/- Proved here: the law FnExactLaddersOf answers true at all that comes in; no other condition. -/
import Derived.Test.YtkobjjadojpjfaaSFnExactLaddersOf
import Derived.Test.YtkobjjadojpjfaaPL13
import Derived.Test.YtkobjjadojpjfaaPL1H
namespace Go.Proofs.Ytkobjjadojpjfaa.Pure
open Go.RowKit Go.Proofs.Ytkobjjadojpjfaa.Pr Go.Proofs.YtkobjjadojpjfaaW.PrintWords Go.Proofs.YtkobjjadojpjfaaW.PrintLast
set_option linter.unusedSimpArgs false

theorem LaddersOf_same (a b c : Int) (l : List S27) (hl0 : l.length ≤ 1048576) : ∃ (K : Nat) (r : List S27 × Bool), r.1.length ≤ 1048576 ∧ ∀ k, K ≤ k → spec_LaddersOf.f k a b c l = some r ∧ impl_LaddersOf.f k a b c l = some r := by
  by_cases h : good a b c l = true
  · have B := Board.of_good h
    have hl := B.len
    refine ⟨100, (l.filter (fun y => decide (y.f0 < y.f1)), true), Nat.le_trans (List.length_filter_le _ _) (by omega), fun k hk => ?_⟩
    unfold spec_LaddersOf.f impl_LaddersOf.f
    rw [sqGood_eq a b c l k (by omega), isBoard_eq a b c l k (by omega), h]
    simp only [Option.bind_some, if_true]
    rw [sqJumps_eq a b c true l (by omega) k (by omega), jumps_eq ladderV (fun y => decide (y.f0 < y.f1)) (fun _ => rfl) a b c l (by omega) k (by omega)]
    have e : l.filter (fun y => decide (y.f1 > y.f0) == true) = l.filter (fun y => decide (y.f0 < y.f1)) := by
      refine List.filter_congr fun y hy => ?_
      by_cases h1 : y.f0 < y.f1
      · rw [decide_eq_true h1]; rfl
      · rw [decide_eq_false h1]; rfl
    rw [e]
    exact ⟨rfl, rfl⟩
  · refine ⟨100, ([], false), by simp, fun k hk => ?_⟩
    unfold spec_LaddersOf.f impl_LaddersOf.f
    rw [sqGood_eq a b c l k (by omega), isBoard_eq a b c l k (by omega)]
    simp only [Option.bind_some]
    rw [if_neg h, if_neg h]
    exact ⟨rfl, rfl⟩

attribute [local congr] bind_weak in
theorem FnExactLaddersOf : laws_FnExactLaddersOf.Pure := by
  intro a b c l  wa wb wc hm hw
  by_cases hlen : l.length ≤ 1048576
  case neg =>
    refine ⟨0, ?_⟩
    unfold laws_FnExactLaddersOf.f
    rw [szBoard_eq a b c l _ (by omega) (by omega) hm]
    simp only [Option.bind_some]
    rw [if_pos (by rw [if_neg (by omega)]; omega)]
  obtain ⟨K, ⟨r, y⟩, hl0, hr⟩ := LaddersOf_same a b c (l.map conv) (by rw [List.length_map]; omega)
  have hl' : r.length ≤ 1048576 := hl0
  obtain ⟨n, hn⟩ : ∃ n, n = 2097300 + K := ⟨_, rfl⟩
  have h0 := fun k hk => (hr k hk).1
  have h1 := fun k hk => (hr k hk).2
  refine ⟨n + 4, ?_⟩
  have hT := fun k hk => toBoard_eq a b c l hlen k hk
  have hE := fun k hk => eqBoard_same a b c (l.map conv) (by rw [List.length_map]; omega) k hk
  have hlm : (l.map conv).length = l.length := List.length_map ..
  have hS := fun k hk => eqJumpS_same r (by omega) k hk
  have hMB := fun k hk => markBoard_eq a b c (l.map conv) (by rw [List.length_map]; omega) k hk
  have hM := fun k hk => markJumpS_eq r (by omega) k hk
  have hH := fun k hk => heldJumpS_eq r.length (by omega) k hk
  have hn1 : (1 + 2 * (r.length : Int) < 0) = False := eq_false (by omega)
  have hn2 : (1 + 2 * ((l.map conv).length : Int) < 0) = False := eq_false (by omega)
  have hz := szBoard_eq a b c l 1048576 (by omega) (by omega) hm
  have hz2 : ((if (l.length : Int) ≤ 1048576 then 1048576 - (l.length : Int) else -1) < 0) = False := eq_false (by rw [if_pos (by omega)]; omega)
  generalize l.map conv = L at *
  unfold laws_FnExactLaddersOf.f
  simp (disch := omega) only [↓reduceIte, hz, hz2, Option.bind_some, bne_self_eq_false, Bool.false_eq_true, decide_true, laws_FnExactLaddersOf.j0, laws_FnExactLaddersOf.j1, laws_FnExactLaddersOf.j2, hT, h0, h1, hE, hS, hMB, hM, hH, hn1, hn2]


end Go.Proofs.Ytkobjjadojpjfaa.Pure
