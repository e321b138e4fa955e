/- Proved here: what the two filters of a board's jumps compute: the kept jumps in their order; no other condition than at most 1000 jumps. -/
import Derived.Test.YtkobjjadojpjfaaHJumps
import Derived.Test.YtkobjjadojpjfaaFSpecSqJumps
import Derived.Test.YtkobjjadojpjfaaPL2
namespace Go.Proofs.Ytkobjjadojpjfaa.Pure
open Go.RowKit Go.Proofs.Ytkobjjadojpjfaa.Pr Go.Proofs.YtkobjjadojpjfaaW.PrintWords Go.Proofs.YtkobjjadojpjfaaW.PrintLast
set_option linter.unusedSimpArgs false
set_option linter.unusedVariables false

theorem idx_none (x : FvJ) (q : S27 → Bool) (hq : ∀ y : S27, fvJ_.f x y.f0 y.f1 = some (q y)) (l : List S27) (hl : l.length ≤ 1000) : ∀ (d i k : Nat), i + d = l.length → d < k → (∀ j, (h : j < l.length) → i ≤ j → q l[j] = false) →
    impl_Jump_213.l0 k l x (l.length : Int) (i : Int) = some (-1)
  | 0, i, k, h1, h2, h3 => by
    obtain ⟨k, rfl⟩ : ∃ m, k = m + 1 := ⟨k - 1, by omega⟩
    simp only [impl_Jump_213.l0]
    rw [if_neg (by omega)]
  | d + 1, i, k, h1, h2, h3 => by
    obtain ⟨k, rfl⟩ : ∃ m, k = m + 1 := ⟨k - 1, by omega⟩
    have hi : i < l.length := by omega
    simp only [impl_Jump_213.l0]
    rw [if_pos (by omega), if_pos (nat_nn i), if_pos (by omega), rdJ_at hi, hq, h3 i hi (Nat.le_refl i)]
    simp only [Option.bind_some]
    rw [if_neg (by decide), w64_succ (by omega)]
    exact idx_none x q hq l hl d (i + 1) k (by omega) (by omega) (fun j hj h => h3 j hj (by omega))

theorem idx_some (x : FvJ) (q : S27 → Bool) (hq : ∀ y : S27, fvJ_.f x y.f0 y.f1 = some (q y)) (l : List S27) (hl : l.length ≤ 1000) (m : Nat) (hm : m < l.length) (hqm : q l[m] = true) : ∀ (d i k : Nat), i + d = m → d < k → (∀ j, (h : j < m) → i ≤ j → q (l[j]'(by omega)) = false) →
    impl_Jump_213.l0 k l x (l.length : Int) (i : Int) = some (m : Int)
  | 0, i, k, h1, h2, h3 => by
    obtain ⟨k, rfl⟩ : ∃ m, k = m + 1 := ⟨k - 1, by omega⟩
    obtain rfl : i = m := by omega
    simp only [impl_Jump_213.l0]
    rw [if_pos (by omega), if_pos (nat_nn i), if_pos (by omega), rdJ_at hm, hq, hqm]
    simp only [Option.bind_some]
    rfl
  | d + 1, i, k, h1, h2, h3 => by
    obtain ⟨k, rfl⟩ : ∃ m, k = m + 1 := ⟨k - 1, by omega⟩
    have hi : i < l.length := by omega
    simp only [impl_Jump_213.l0]
    rw [if_pos (by omega), if_pos (nat_nn i), if_pos (by omega), rdJ_at hi, hq, h3 i (by omega) (Nat.le_refl i)]
    simp only [Option.bind_some]
    rw [if_neg (by decide), w64_succ (by omega)]
    exact idx_some x q hq l hl m hm hqm d (i + 1) k (by omega) (by omega) (fun j hj h => h3 j hj (by omega))

theorem del_l0 (x : FvJ) (q : S27 → Bool) (hq : ∀ y : S27, fvJ_.f x y.f0 y.f1 = some (q y)) : ∀ (d i j k : Nat) (l : List S27), l.length ≤ 1000 → j + d = l.length → i < j → d < k →
    impl_Jump_198.l0 k l x (i : Int) (j : Int) = some (l.take i ++ (l.drop j).filter (fun y => !q y))
  | 0, i, j, k, l, hl, h1, h2, h3 => by
    obtain ⟨k, rfl⟩ : ∃ m, k = m + 1 := ⟨k - 1, by omega⟩
    simp only [impl_Jump_198.l0]
    rw [if_neg (by omega), if_pos (nat_nn i), if_pos (by omega), List.drop_of_length_le (by omega), Int.toNat_natCast]
    simp
  | d + 1, i, j, k, l, hl, h1, h2, h3 => by
    obtain ⟨k, rfl⟩ : ∃ m, k = m + 1 := ⟨k - 1, by omega⟩
    have hj : j < l.length := by omega
    simp only [impl_Jump_198.l0]
    rw [if_pos (by omega), if_pos (nat_nn j), rdJ_at hj, hq]
    simp only [Option.bind_some]
    rw [List.drop_eq_getElem_cons hj, w64_succ (by omega)]
    by_cases h : q l[j] = true
    · rw [if_pos h, del_l0 x q hq d i (j + 1) k l hl (by omega) (by omega) (by omega), List.filter_cons_of_neg (by rw [h]; decide)]
    · have h' : q l[j] = false := Bool.eq_false_iff.mpr h
      rw [if_neg h, if_pos (nat_nn i), if_pos (by omega), Int.toNat_natCast, w64_succ (by omega)]
      rw [del_l0 x q hq d (i + 1) (j + 1) k (l.set i l[j]) (by rw [List.length_set]; omega) (by rw [List.length_set]; omega) (by omega) (by omega)]
      rw [List.filter_cons_of_pos (by rw [h']; decide), List.drop_set_of_lt (by omega), List.take_succ_eq_append_getElem (by rw [List.length_set]; omega), List.getElem_set_self, List.take_set_of_le (Nat.le_refl i), List.append_assoc]
      rfl

theorem delete_eq (x : FvJ) (q : S27 → Bool) (hq : ∀ y : S27, fvJ_.f x y.f0 y.f1 = some (q y)) (l : List S27) (hl : l.length ≤ 1000) (k : Nat) (hk : l.length < k) :
    impl_Jump_198.f k l x = some (l.filter (fun y => !q y)) := by
  unfold impl_Jump_198.f impl_Jump_213.f
  by_cases h : ∃ m, ∃ hm : m < l.length, q l[m] = true ∧ ∀ j, (h : j < m) → q (l[j]'(by omega)) = false
  · obtain ⟨m, hm, h1, h2⟩ := h
    have e := idx_some x q hq l hl m hm h1 m 0 k (by omega) (by omega) (fun j hj _ => h2 j hj)
    rw [show ((0 : Nat) : Int) = 0 from rfl] at e
    rw [e]
    simp only [Option.bind_some]
    rw [if_neg (by omega), w64_succ (by omega), del_l0 x q hq (l.length - (m + 1)) m (m + 1) k l hl (by omega) (by omega) (by omega)]
    have e2 : l.filter (fun y => !q y) = (l.take m).filter (fun y => !q y) ++ (l.drop m).filter (fun y => !q y) := by rw [← List.filter_append, List.take_append_drop]
    have e3 : (l.take m).filter (fun y => !q y) = l.take m := by
      rw [List.filter_eq_self]
      intro y hy
      obtain ⟨j, hj, rfl⟩ := List.mem_iff_getElem.mp hy
      rw [List.getElem_take]
      rw [List.length_take] at hj
      rw [h2 j (by omega)]
      rfl
    rw [e2, e3, List.drop_eq_getElem_cons hm, List.filter_cons_of_neg (by rw [h1]; decide)]
  · have h3 : ∀ n, ∀ j, (hj : j < l.length) → j < n → q l[j] = false := by
      intro n
      induction n with
      | zero => intro j _ h; omega
      | succ n ih =>
        intro j hj hn
        by_cases e : q l[j] = true
        · exact absurd ⟨j, hj, e, fun i hi => ih i (by omega) (by omega)⟩ h
        · exact Bool.eq_false_iff.mpr e
    have e := idx_none x q hq l hl l.length 0 k (by omega) hk (fun j hj _ => h3 (j + 1) j hj (by omega))
    rw [show ((0 : Nat) : Int) = 0 from rfl] at e
    rw [e]
    simp only [Option.bind_some]
    rw [if_pos trivial]
    refine congrArg some (Eq.symm ?_)
    rw [List.filter_eq_self]
    intro y hy
    obtain ⟨j, hj, rfl⟩ := List.mem_iff_getElem.mp hy
    rw [h3 (j + 1) j hj (by omega)]
    rfl

theorem jumps_eq (x : FvJ) (p : S27 → Bool) (hp : ∀ y : S27, fvJ_.f x y.f0 y.f1 = some (p y)) (a b c : Int) (l : List S27) (hl : l.length ≤ 1000) (k : Nat) (hk : l.length < k) :
    impl_Board_jumps.f k a b c l x = some (l.filter p) := by
  unfold impl_Board_jumps.f cloneJumps.f
  rw [if_pos (by omega)]
  simp only [Option.bind_some]
  rw [delete_eq (negV x) (fun y => !p y) (fun y => by show (fvJ_.f x y.f0 y.f1).map _ = _; rw [hp]; rfl) l hl k hk]
  refine congrArg some (List.filter_congr fun y _ => ?_)
  exact Bool.not_not (p y)

theorem sqJumps_l0 (u : Bool) (l : List S27) (hl : l.length ≤ 1000) : ∀ (d i k : Nat) (acc : List S27), i + d = l.length → acc.length ≤ i → d < k →
    spec_sqJumps.l0 k u acc l (l.length : Int) (i : Int) = some (acc ++ (l.drop i).filter (fun y => decide (y.f1 > y.f0) == u))
  | 0, i, k, acc, h1, h2, h3 => by
    obtain ⟨k, rfl⟩ : ∃ m, k = m + 1 := ⟨k - 1, by omega⟩
    simp only [spec_sqJumps.l0]
    rw [if_neg (by omega), List.drop_of_length_le (by omega)]
    simp
  | d + 1, i, k, acc, h1, h2, h3 => by
    obtain ⟨k, rfl⟩ : ∃ m, k = m + 1 := ⟨k - 1, by omega⟩
    have hi : i < l.length := by omega
    simp only [spec_sqJumps.l0]
    rw [if_pos (by omega), if_pos (nat_nn i), if_pos (by omega), rdJ_at hi, w64_succ (by omega), List.drop_eq_getElem_cons hi]
    by_cases h : (decide (l[i].f1 > l[i].f0) == u) = true
    · rw [if_pos h, if_pos (by omega), sqJumps_l0 u l hl d (i + 1) k _ (by omega) (by simp; omega) (by omega), List.filter_cons_of_pos (by simpa using h), List.append_assoc]
      rfl
    · rw [if_neg h, sqJumps_l0 u l hl d (i + 1) k _ (by omega) (by omega) (by omega), List.filter_cons_of_neg (by simpa using h)]

theorem sqJumps_eq (a b c : Int) (u : Bool) (l : List S27) (hl : l.length ≤ 1000) (k : Nat) (hk : l.length < k) : spec_sqJumps.f k a b c l u = some (l.filter (fun y => decide (y.f1 > y.f0) == u)) := by
  unfold spec_sqJumps.f
  have := sqJumps_l0 u l hl l.length 0 k [] (by omega) (by simp) hk
  rw [show ((0 : Nat) : Int) = 0 from rfl, List.drop_zero, List.nil_append] at this
  exact this

/-- no jump of a board leads to where it begins -/
theorem Board_apart {a b c : Int} {l : List S27} (B : Board a b c l) {x : S27} (hx : x ∈ l) : x.f1 ≠ x.f0 := fun e =>
  (beg_false l x.f1 (B.jump x hx).2.2.2.2).2 x hx e.symm

end Go.Proofs.Ytkobjjadojpjfaa.Pure
