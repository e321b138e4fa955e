/- Proved here: a board's jumps stand in order of their beginnings; putting a row in order leaves it; no other condition. -/
import Derived.Test.YtkobjjadojpjfaaPL12
namespace Go.Proofs.Ytkobjjadojpjfaa.Pr
open Go.RowKit Go.Proofs.YtkobjjadojpjfaaW.PrintWords Go.Proofs.YtkobjjadojpjfaaW.PrintLast Go.Proofs.YtkobjjadojpjfaaW.PrintMore
set_option linter.unusedVariables false
set_option linter.unusedSimpArgs false

abbrev Ord (l : List S27) : Prop := l.Pairwise (fun x y => x.f0 < y.f0)

theorem good_step {a b c : Int} {l : List S27} (h : good a b c l = true) (i : Nat) (hi : i + 1 < l.length) : l[i].f0 < l[i + 1].f0 := by
  unfold good at h
  simp only [Bool.and_eq_true, decide_eq_true_eq] at h
  have ho := (allFrom_iff _ _ _).mp h.2.2.2.2 (i + 1) (by omega) (by omega)
  unfold okB at ho
  simp only [Bool.and_eq_true, Bool.or_eq_true, decide_eq_true_eq, Bool.not_eq_true'] at ho
  have h3 := ho.2.2.1.resolve_left (by omega)
  rw [show i + 1 - 1 = i from rfl] at h3
  have e1 : gJ l i = l[i] := rdJ_at (by omega)
  have e2 : gJ l (i + 1) = l[i + 1] := rdJ_at hi
  rw [e1, e2] at h3
  exact h3

theorem good_lt {a b c : Int} {l : List S27} (h : good a b c l = true) : ∀ (d i : Nat) (hi : i + d + 1 < l.length), l[i].f0 < l[i + d + 1].f0
  | 0, i, hi => good_step h i hi
  | d + 1, i, hi => Int.lt_trans (good_lt h d i (by omega)) (good_step h (i + d + 1) hi)

theorem good_ord {a b c : Int} {l : List S27} (h : good a b c l = true) : Ord l := by
  refine List.pairwise_iff_getElem.mpr fun i j hi hj hij => ?_
  obtain ⟨d, rfl⟩ : ∃ d, j = i + d + 1 := ⟨j - i - 1, by omega⟩
  exact good_lt h d i hj

theorem insL_end (x : S27) (l : List S27) (h : ∀ y ∈ l, y.f0 ≤ x.f0) : insL x l = l ++ [x] := by
  have e : posJ x l l.length = l.length := by
    cases hn : l.length with
    | zero => rfl
    | succ n =>
      unfold posJ
      have e1 : gJ l n = l[n] := rdJ_at (by omega)
      have := h l[n] (List.getElem_mem _)
      rw [e1, if_neg (by omega)]
  unfold insL
  rw [e, List.take_length, List.drop_length]

theorem insAll_ord : ∀ (xs acc : List S27), Ord (acc ++ xs) → insAll acc xs = acc ++ xs
  | [], acc, _ => by simp [insAll]
  | x :: xs, acc, h => by
    unfold insAll
    rw [insL_end x acc (fun y hy => Int.le_of_lt ((List.pairwise_append.mp h).2.2 y hy x (List.mem_cons_self ..))), insAll_ord xs (acc ++ [x]) (by rw [List.append_assoc]; exact h), List.append_assoc]
    rfl

/-- in an ordered row one jump at most begins at s -/
theorem ord_drop {l : List S27} (h : Ord l) (s : Int) (i : Nat) (hi : i < l.length) (e : l[i].f0 = s) : l.filter (fun y => y.f0 != s) = l.take i ++ l.drop (i + 1) := by
  have h2 := List.pairwise_iff_getElem.mp h
  have e2 : l.filter (fun y => y.f0 != s) = (l.take i).filter (fun y => y.f0 != s) ++ (l.drop i).filter (fun y => y.f0 != s) := by rw [← List.filter_append, List.take_append_drop]
  rw [e2, List.drop_eq_getElem_cons hi, List.filter_cons_of_neg (by simp [e])]
  congr 1
  · rw [List.filter_eq_self]
    intro y hy
    obtain ⟨j, hj, rfl⟩ := List.mem_iff_getElem.mp hy
    rw [List.length_take] at hj
    rw [List.getElem_take]
    have := h2 j i (by omega) hi (by omega)
    exact bne_iff_ne.mpr (by omega)
  · rw [List.filter_eq_self]
    intro y hy
    obtain ⟨j, hj, rfl⟩ := List.mem_iff_getElem.mp hy
    rw [List.length_drop] at hj
    rw [List.getElem_drop]
    have := h2 i (i + 1 + j) hi (by omega) (by omega)
    exact bne_iff_ne.mpr (by omega)

end Go.Proofs.Ytkobjjadojpjfaa.Pr
