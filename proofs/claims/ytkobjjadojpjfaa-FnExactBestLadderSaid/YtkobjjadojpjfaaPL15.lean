/- Proved here: the stable sort of 21 jumps answers some 21 jumps; the condition is the length. -/
import Derived.Test.YtkobjjadojpjfaaPL14
namespace Go.Proofs.Ytkobjjadojpjfaa.Pr
open Go.RowKit Go.Proofs.YtkobjjadojpjfaaW.PrintWords Go.Proofs.YtkobjjadojpjfaaW.PrintLast Go.Proofs.YtkobjjadojpjfaaW.PrintMore
set_option linter.unusedVariables false
set_option linter.unusedSimpArgs false

theorem cmp_some (x y z u : Int) : ∃ v, fvC_.f cmpV x y z u = some v := ⟨_, cmp_eq x y z u⟩

theorem ex_inner (d i : Nat) (hi : i + d + 1 = 20) (ih : ∀ (l : List S27) (k : Nat), l.length = 21 → 30 * d + 5 ≤ k → ∃ y : List S27, y.length = 21 ∧ impl_Jump_220.l0 k l 0 20 cmpV ((i + 1 : Nat) : Int) = some y) :
    ∀ (j : Nat) (l : List S27) (k : Nat), j ≤ i → l.length = 21 → 30 * d + 6 + j ≤ k → ∃ y : List S27, y.length = 21 ∧ impl_Jump_220.l1 k l 0 20 cmpV (i : Int) (j : Int) = some y
  | 0, l, k, h1, h2, h3 => by
    obtain ⟨k, rfl⟩ : ∃ m, k = m + 1 := ⟨k - 1, by omega⟩
    simp only [impl_Jump_220.l1]
    rw [if_neg (by omega), w64_succ (by omega)]
    exact ih l k h2 (by omega)
  | j + 1, l, k, h1, h2, h3 => by
    obtain ⟨k, rfl⟩ : ∃ m, k = m + 1 := ⟨k - 1, by omega⟩
    simp only [impl_Jump_220.l1]
    rw [if_pos (by omega), if_pos (by omega), if_pos (by omega), w64 (((j + 1 : Nat) : Int) - 1) (by omega) (by omega), show ((j + 1 : Nat) : Int) - 1 = (j : Int) by omega, if_pos (by omega), if_pos (by omega), (cmp_some _ _ _ _).choose_spec]
    simp only [Option.bind_some]
    split
    · exact ex_inner d i hi ih j _ k (by omega) (by rw [List.length_set, List.length_set]; exact h2) (by omega)
    · rw [w64_succ (by omega)]
      exact ih l k h2 (by omega)

theorem ex_ins : ∀ (d i : Nat) (l : List S27) (k : Nat), i + d = 20 → l.length = 21 → 30 * d + 5 ≤ k → ∃ y : List S27, y.length = 21 ∧ impl_Jump_220.l0 k l 0 20 cmpV (i : Int) = some y
  | 0, i, l, k, h1, h2, h3 => by
    obtain ⟨k, rfl⟩ : ∃ m, k = m + 1 := ⟨k - 1, by omega⟩
    simp only [impl_Jump_220.l0]
    rw [if_neg (by omega)]
    exact ⟨l, h2, rfl⟩
  | d + 1, i, l, k, h1, h2, h3 => by
    obtain ⟨k, rfl⟩ : ∃ m, k = m + 1 := ⟨k - 1, by omega⟩
    simp only [impl_Jump_220.l0]
    rw [if_pos (by omega)]
    exact ex_inner d i (by omega) (fun l k hl hk => ex_ins d (i + 1) l k (by omega) hl hk) i l k (Nat.le_refl i) h2 (by omega)

theorem ex_l3 : ∀ (d i : Nat) (l : List S27) (k : Nat), i + d ≤ 20 → l.length = 21 → d < k → ∃ y : List S27, y.length = 21 ∧ impl_Jump_221.l3 k l (i : Int) ((i + d : Nat) : Int) = some y
  | 0, i, l, k, h1, h2, h3 => by
    obtain ⟨k, rfl⟩ : ∃ m, k = m + 1 := ⟨k - 1, by omega⟩
    simp only [impl_Jump_221.l3]
    rw [if_neg (by omega)]
    exact ⟨l, h2, rfl⟩
  | d + 1, i, l, k, h1, h2, h3 => by
    obtain ⟨k, rfl⟩ : ∃ m, k = m + 1 := ⟨k - 1, by omega⟩
    simp only [impl_Jump_221.l3]
    rw [if_pos (by omega), w64 (((i + (d + 1) : Nat) : Int) - 1) (by omega) (by omega), show ((i + (d + 1) : Nat) : Int) - 1 = ((i + d : Nat) : Int) by omega, if_pos (by omega), if_pos (by omega), if_pos (by omega), if_pos (by omega)]
    exact ex_l3 d i _ k (by omega) (by rw [List.length_set, List.length_set]; exact h2) (by omega)

theorem half_eq (s : Nat) (h : s ≤ 40) : wrap64 ((IntKind.u64.wrap (wrap64 (s : Int))) / 2) = ((s / 2 : Nat) : Int) := by
  have key : ∀ x : Fin 41, wrap64 ((IntKind.u64.wrap (wrap64 ((x.val : Nat) : Int))) / 2) = ((x.val / 2 : Nat) : Int) := by decide +kernel
  exact key ⟨s, by omega⟩

theorem ex_l2 : ∀ (n i j : Nat) (l : List S27) (k : Nat), j ≤ i + n → i ≤ j → j ≤ 20 → l.length = 21 → n + 30 ≤ k → ∃ y : List S27, y.length = 21 ∧ impl_Jump_221.l2 k l 20 cmpV (i : Int) (j : Int) = some y
  | 0, i, j, l, k, h1, h2, h3, h4, h5 => by
    obtain ⟨k, rfl⟩ : ∃ m, k = m + 1 := ⟨k - 1, by omega⟩
    simp only [impl_Jump_221.l2]
    rw [if_neg (by omega)]
    obtain ⟨y, hy, e⟩ := ex_l3 (20 - i) i l k (by omega) h4 (by omega)
    rw [show ((i + (20 - i) : Nat) : Int) = 20 by omega] at e
    exact ⟨y, hy, e⟩
  | n + 1, i, j, l, k, h1, h2, h3, h4, h5 => by
    obtain ⟨k, rfl⟩ : ∃ m, k = m + 1 := ⟨k - 1, by omega⟩
    simp only [impl_Jump_221.l2]
    by_cases h : i < j
    · rw [if_pos (by omega), show (i : Int) + (j : Int) = ((i + j : Nat) : Int) by omega, half_eq (i + j) (by omega), if_pos (by omega), if_pos (by omega), if_pos (by omega), if_pos (by omega), (cmp_some _ _ _ _).choose_spec]
      simp only [Option.bind_some]
      split
      · exact ex_l2 n i ((i + j) / 2) l k (by omega) (by omega) (by omega) h4 (by omega)
      · rw [w64_succ (by omega)]
        exact ex_l2 n ((i + j) / 2 + 1) j l k (by omega) (by omega) h3 h4 (by omega)
    · rw [if_neg (by omega)]
      obtain ⟨y, hy, e⟩ := ex_l3 (20 - i) i l k (by omega) h4 (by omega)
      rw [show ((i + (20 - i) : Nat) : Int) = 20 by omega] at e
      exact ⟨y, hy, e⟩

theorem ex_merge (l : List S27) (hl : l.length = 21) (k : Nat) (hk : 100 ≤ k) : ∃ y : List S27, y.length = 21 ∧ impl_Jump_221.f k l 0 20 21 cmpV = some y := by
  obtain ⟨k, rfl⟩ : ∃ m, k = m + 1 := ⟨k - 1, by omega⟩
  simp only [impl_Jump_221.f]
  rw [if_neg (by rw [w64 _ (by omega) (by omega)]; omega), if_pos (by rw [w64 _ (by omega) (by omega)]; omega)]
  exact ex_l2 20 0 20 l k (by omega) (by omega) (by omega) hl (by omega)

theorem ex_sort (l : List S27) (hl : l.length = 21) (k : Nat) (hk : 2000 ≤ k) : ∃ y : List S27, y.length = 21 ∧ impl_Jump_204.f k l cmpV = some y := by
  unfold impl_Jump_204.f impl_Jump_216.f
  rw [show (l.length : Int) = 21 by omega]
  obtain ⟨k, rfl⟩ : ∃ m, k = m + 1 + 1 + 1 + 1 + 1 := ⟨k - 5, by omega⟩
  obtain ⟨y1, hy1, e1⟩ := ex_ins 19 1 l (k + 1 + 1 + 1 + 1) (by omega) hl (by omega)
  have e1 : impl_Jump_220.f (k + 1 + 1 + 1 + 1) l 0 20 cmpV = some y1 := by unfold impl_Jump_220.f; rw [w64 (0 + 1) (by omega) (by omega)]; exact e1
  have e2 : impl_Jump_220.f (k + 1 + 1 + 1) y1 20 21 cmpV = some y1 := by
    unfold impl_Jump_220.f
    simp only [impl_Jump_220.l0]
    rw [w64 (20 + 1) (by omega) (by omega), if_neg (by omega)]
  obtain ⟨y2, hy2, e3⟩ := ex_merge y1 hy1 (k + 1) (by omega)
  refine ⟨y2, hy2, ?_⟩
  simp only [impl_Jump_216.l0]
  rw [if_pos (by omega), e1]
  simp only [Option.bind_some]
  rw [w64 (20 + 20) (by omega) (by omega), if_neg (by omega), e2]
  simp only [Option.bind_some, impl_Jump_216.l1, impl_Jump_216.l2]
  rw [if_pos (by omega), w64 (2 * 20) (by omega) (by omega), if_neg (by omega), w64 (0 + 20) (by omega) (by omega), if_pos (by omega), show (0 : Int) + 20 = 20 from rfl, e3]
  simp only [Option.bind_some]
  rw [w64 (20 * 2) (by omega) (by omega)]
  rw [if_neg (by omega)]
  rfl

theorem insAll_app : ∀ (xs ys acc : List S27), insAll acc (xs ++ ys) = insAll (insAll acc xs) ys
  | [], _, _ => rfl
  | x :: xs, ys, acc => by
    exact insAll_app xs ys (insL x acc)

end Go.Proofs.Ytkobjjadojpjfaa.Pr
