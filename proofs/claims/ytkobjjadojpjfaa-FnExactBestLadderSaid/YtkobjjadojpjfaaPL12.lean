/- Proved here: a jump put in its place among others, and the stable sort of at most 20 jumps; the conditions are lengths. -/
import Derived.Test.YtkobjjadojpjfaaPL2
import Derived.Test.YtkobjjadojpjfaaFSpecSqWith
import Derived.Test.YtkobjjadojpjfaaFImplBoardWith
namespace Go.Proofs.Ytkobjjadojpjfaa.Pr
open Go.RowKit Go.Proofs.YtkobjjadojpjfaaW.PrintWords Go.Proofs.YtkobjjadojpjfaaW.PrintLast Go.Proofs.YtkobjjadojpjfaaW.PrintMore
set_option linter.unusedVariables false
set_option linter.unusedSimpArgs false

/-- the place behind those of the first n that do not begin behind x -/
def posJ (x : S27) (l : List S27) : Nat → Nat
  | 0 => 0
  | n + 1 => if x.f0 < (gJ l n).f0 then posJ x l n else n + 1

theorem posJ_le (x : S27) (l : List S27) : ∀ n, posJ x l n ≤ n
  | 0 => Nat.le_refl _
  | n + 1 => by
    have := posJ_le x l n
    unfold posJ
    split <;> omega

def insL (x : S27) (l : List S27) : List S27 := l.take (posJ x l l.length) ++ x :: l.drop (posJ x l l.length)

theorem insL_length (x : S27) (l : List S27) : (insL x l).length = l.length + 1 := by
  have := posJ_le x l l.length
  unfold insL
  simp
  omega

def insAll : List S27 → List S27 → List S27
  | acc, [] => acc
  | acc, x :: xs => insAll (insL x acc) xs

theorem insAll_length : ∀ (xs acc : List S27), (insAll acc xs).length = acc.length + xs.length
  | [], acc => by simp [insAll]
  | x :: xs, acc => by
    unfold insAll
    rw [insAll_length xs, insL_length, List.length_cons]
    omega

/-! #### the reference -/
theorem sqWith_l0 (a b c : Int) (l : List S27) (hl : l.length ≤ 1000) (p q : Int) : ∀ (n k : Nat), n ≤ l.length → n < k → spec_sqWith.l0 k (n : Int) a b c l p q = some (a, b, c, l.take (posJ ⟨p, q⟩ l n) ++ (⟨p, q⟩ : S27) :: l.drop (posJ ⟨p, q⟩ l n)) := by
  have fin : ∀ (n : Nat), n ≤ l.length → (if 0 ≤ (n : Int) then (if (n : Int) ≤ (l.length : Int) then ((some (l.take (n : Int).toNat : List S27)).bind fun yBK => (if ([] : List S27).length + yBK.length < 8796093022208 then ((some ([] ++ yBK : List S27)).bind fun yBO => ((some (([(⟨p, q⟩ : S27)] : List S27) : List S27)).bind fun yBR => (if yBO.length + yBR.length < 8796093022208 then ((some (yBO ++ yBR : List S27)).bind fun yBU => ((some (l.drop (n : Int).toNat : List S27)).bind fun yBX => (if yBU.length + yBX.length < 8796093022208 then (some (a, b, c, (yBU ++ yBX))) else (none)))) else (none)))) else (none))) else (none)) else (none)) = some (a, b, c, l.take n ++ (⟨p, q⟩ : S27) :: l.drop n) := fun n hn => by
    have h1 : (l.take n).length ≤ 1000 := by rw [List.length_take]; omega
    have h2 : (l.drop n).length ≤ 1000 := by rw [List.length_drop]; omega
    simp only [Option.bind_some, Int.toNat_natCast]
    rw [if_pos (by omega), if_pos (by omega), if_pos (by simp; omega), if_pos (by simp; omega), if_pos (by simp; omega)]
    simp
  intro n
  induction n with
  | zero =>
    intro k h1 h2
    obtain ⟨k, rfl⟩ : ∃ m, k = m + 1 := ⟨k - 1, by omega⟩
    simp only [spec_sqWith.l0]
    rw [if_neg (by omega)]
    exact fin 0 h1
  | succ n ih =>
    intro k h1 h2
    obtain ⟨k, rfl⟩ : ∃ m, k = m + 1 := ⟨k - 1, by omega⟩
    simp only [spec_sqWith.l0]
    rw [if_pos (by omega), w64 (((n + 1 : Nat) : Int) - 1) (by omega) (by omega), show ((n + 1 : Nat) : Int) - 1 = (n : Int) by omega, if_pos (by omega), if_pos (by omega)]
    unfold posJ
    by_cases h : p < (gJ l n).f0
    · rw [if_pos h, if_pos (show (rd_T27 l (n : Int)).f0 > p from h), ih k (by omega) (by omega)]
    · rw [if_neg h, if_neg (show ¬ (rd_T27 l (n : Int)).f0 > p from h)]
      exact fin (n + 1) h1

theorem sqWith_eq (a b c : Int) (l : List S27) (hl : l.length ≤ 1000) (p q : Int) (k : Nat) (hk : l.length < k) : spec_sqWith.f k a b c l p q = some (a, b, c, insL ⟨p, q⟩ l) := by
  unfold spec_sqWith.f
  exact sqWith_l0 a b c l hl p q l.length k (Nat.le_refl _) hk

/-! #### the program's sort -/
theorem cmp_eq (x y z u : Int) : fvC_.f cmpV x y z u = some (if x < z then -1 else if x > z then 1 else 0) := by
  show cmp_Compare_int.f x z = _
  unfold cmp_Compare_int.f cmp_isNaN_int.f
  simp only [Option.bind_some, bne_self_eq_false]
  simp
  split
  · rfl
  · split <;> rfl

theorem rdJ_app (A B : List S27) (x : S27) (n : Nat) (h : n = A.length) : rd_T27 (A ++ x :: B) (n : Int) = x := by
  subst h
  rw [rdJ_at (by simp)]
  simp

theorem swap_mid (A B : List S27) (x y : S27) (n : Nat) (h : n = A.length) : ((A ++ y :: x :: B).set (n + 1) y).set n x = A ++ x :: y :: B := by
  subst h
  rw [List.set_append_right _ _ (by omega), List.set_append_right _ _ (by omega)]
  simp

theorem ins_l1 (l rest : List S27) (x : S27) (hl : l.length ≤ 1000) (hr : rest.length ≤ 1000) (n : Int) : ∀ (j k : Nat), j ≤ l.length → j < k →
    ∃ k', k ≤ k' + j + 1 ∧ impl_Jump_220.l1 k (l.take j ++ x :: (l.drop j ++ rest)) 0 n cmpV (l.length : Int) (j : Int) = impl_Jump_220.l0 k' (l.take (posJ x l j) ++ x :: (l.drop (posJ x l j) ++ rest)) 0 n cmpV ((l.length + 1 : Nat) : Int)
  | 0, k, h1, h2 => by
    obtain ⟨k, rfl⟩ : ∃ m, k = m + 1 := ⟨k - 1, by omega⟩
    refine ⟨k, by omega, ?_⟩
    simp only [impl_Jump_220.l1]
    rw [if_neg (by omega), w64_succ (by omega)]
    rfl
  | j + 1, k, h1, h2 => by
    obtain ⟨k, rfl⟩ : ∃ m, k = m + 1 := ⟨k - 1, by omega⟩
    have hj : j < l.length := by omega
    have ht : l.take (j + 1) = l.take j ++ [l[j]] := List.take_succ_eq_append_getElem hj
    have hd : l.drop j = l[j] :: l.drop (j + 1) := List.drop_eq_getElem_cons hj
    have htl : (l.take j).length = j := by rw [List.length_take]; omega
    have e1 : rd_T27 (l.take (j + 1) ++ x :: (l.drop (j + 1) ++ rest)) ((j + 1 : Nat) : Int) = x := rdJ_app _ _ _ _ (by rw [List.length_take]; omega)
    have e2 : rd_T27 (l.take (j + 1) ++ x :: (l.drop (j + 1) ++ rest)) (j : Int) = l[j] := by
      rw [ht, List.append_assoc]
      exact rdJ_app _ _ _ _ htl.symm
    have hlen : (l.take (j + 1) ++ x :: (l.drop (j + 1) ++ rest)).length = l.length + 1 + rest.length := by simp; omega
    have hg : gJ l j = l[j] := by show rd_T27 l (j : Int) = _; exact rdJ_at hj
    simp only [impl_Jump_220.l1]
    rw [if_pos (by omega), if_pos (by omega), if_pos (by rw [hlen]; omega), w64 (((j + 1 : Nat) : Int) - 1) (by omega) (by omega), show ((j + 1 : Nat) : Int) - 1 = (j : Int) by omega, if_pos (by omega), if_pos (by rw [hlen]; omega), e1, e2, cmp_eq]
    simp only [Option.bind_some]
    unfold posJ
    rw [hg]
    by_cases h : x.f0 < l[j].f0
    · obtain ⟨k', hk', e⟩ := ins_l1 l rest x hl hr n j k (by omega) (by omega)
      refine ⟨k', by omega, ?_⟩
      rw [if_pos h, if_pos h, if_pos (by decide), Int.toNat_natCast, Int.toNat_natCast, ht, List.append_assoc, List.singleton_append, swap_mid (l.take j) (l.drop (j + 1) ++ rest) x l[j] j htl.symm, ← e, hd]
      rfl
    · refine ⟨k, by omega, ?_⟩
      rw [if_neg h, if_neg h, if_neg (by split <;> decide), w64_succ (by omega)]

theorem ins_l0 : ∀ (rest acc : List S27) (k : Nat), acc.length + rest.length ≤ 100 → 120 * rest.length + 10 ≤ k →
    impl_Jump_220.l0 k (acc ++ rest) 0 ((acc.length + rest.length : Nat) : Int) cmpV (acc.length : Int) = some (insAll acc rest)
  | [], acc, k, h1, h2 => by
    obtain ⟨k, rfl⟩ : ∃ m, k = m + 1 := ⟨k - 1, by omega⟩
    simp only [impl_Jump_220.l0]
    rw [if_neg (by simp)]
    simp [insAll]
  | x :: rest, acc, k, h1, h2 => by
    obtain ⟨k, rfl⟩ : ∃ m, k = m + 1 := ⟨k - 1, by omega⟩
    rw [List.length_cons] at h1 h2
    simp only [impl_Jump_220.l0]
    obtain ⟨k', hk', e⟩ := ins_l1 acc rest x (by omega) (by omega) ((acc.length + (x :: rest).length : Nat) : Int) acc.length k (Nat.le_refl _) (by omega)
    rw [List.take_length, List.drop_length, List.nil_append] at e
    rw [if_pos (by rw [List.length_cons]; omega), e]
    have ih := ins_l0 rest (insL x acc) k' (by rw [insL_length]; omega) (by omega)
    rw [insL_length] at ih
    rw [show acc.take (posJ x acc acc.length) ++ x :: (acc.drop (posJ x acc acc.length) ++ rest) = insL x acc ++ rest by unfold insL; simp, show acc.length + (x :: rest).length = acc.length + 1 + rest.length by rw [List.length_cons]; omega, ih]
    rfl

theorem ins_eq (xs : List S27) (hl : xs.length ≤ 100) (k : Nat) (hk : 13000 ≤ k) : impl_Jump_220.f k xs 0 (xs.length : Int) cmpV = some (insAll [] xs) := by
  unfold impl_Jump_220.f
  rw [w64 (0 + 1) (by omega) (by omega)]
  cases xs with
  | nil =>
    obtain ⟨k, rfl⟩ : ∃ m, k = m + 1 := ⟨k - 1, by omega⟩
    simp only [impl_Jump_220.l0]
    rw [if_neg (by simp)]
    rfl
  | cons x xs =>
    rw [List.length_cons] at hl
    have := ins_l0 xs [x] k (by simp; omega) (by omega)
    rw [List.length_singleton, List.singleton_append] at this
    rw [show ((x :: xs).length : Int) = ((1 + xs.length : Nat) : Int) by rw [List.length_cons]; omega]
    exact this

theorem ins_none (xs : List S27) (n m : Int) (h : m ≤ n) (h0 : 0 ≤ n) (h1 : n ≤ 1000) (k : Nat) (hk : 1 ≤ k) : impl_Jump_220.f k xs n m cmpV = some xs := by
  obtain ⟨k, rfl⟩ : ∃ m, k = m + 1 := ⟨k - 1, by omega⟩
  unfold impl_Jump_220.f
  simp only [impl_Jump_220.l0]
  rw [w64 (n + 1) (by omega) (by omega), if_neg (by omega)]

theorem sort_eq (xs : List S27) (hl : xs.length ≤ 20) (k : Nat) (hk : 14000 ≤ k) : impl_Jump_204.f k xs cmpV = some (insAll [] xs) := by
  unfold impl_Jump_204.f impl_Jump_216.f
  obtain ⟨k, rfl⟩ : ∃ m, k = m + 1 + 1 + 1 := ⟨k - 3, by omega⟩
  have last : ∀ (ys : List S27) (j : Nat), 1 ≤ j → impl_Jump_216.l1 j ys (xs.length : Int) cmpV 20 = some ys := fun ys j hj => by
    obtain ⟨j, rfl⟩ : ∃ m, j = m + 1 := ⟨j - 1, by omega⟩
    simp only [impl_Jump_216.l1]
    rw [if_neg (by omega)]
  simp only [impl_Jump_216.l0]
  by_cases h : xs.length = 20
  · have hn : (xs.length : Int) = 20 := by omega
    have e1 := ins_eq xs (by omega) (k + 1 + 1) (by omega)
    rw [hn] at e1
    rw [if_pos (by omega), e1]
    simp only [Option.bind_some]
    rw [w64 (20 + 20) (by omega) (by omega), if_neg (by omega), ins_none _ 20 (xs.length : Int) (by omega) (by omega) (by omega) _ (by omega)]
    simp only [Option.bind_some]
    rw [last _ _ (by omega)]
    rfl
  · rw [if_neg (by omega), ins_eq xs (by omega) (k + 1 + 1) (by omega)]
    simp only [Option.bind_some]
    rw [last _ _ (by omega)]
    rfl

theorem with_eq (a b c : Int) (l xs : List S27) (hl : xs.length ≤ 20) (k : Nat) (hk : 14000 ≤ k) : impl_Board_with.f k a b c l xs = some (a, b, c, insAll [] xs) := by
  unfold impl_Board_with.f
  rw [sort_eq xs hl k hk]
  rfl

end Go.Proofs.Ytkobjjadojpjfaa.Pr
