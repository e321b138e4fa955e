/- Proved here: that the program and the reference ask the same of a board, and make the same throws; the conditions are a board's own bounds. -/
import Derived.Test.YtnbleinhabllnaaDoorPL1
import Derived.Test.YtnbleinhabllnaaDoorFImplIsBoard
import Derived.Test.YtnbleinhabllnaaDoorFGC
namespace Go.Proofs.YtnbleinhabllnaaDoor.Pr
open Go.RowKit Go.Proofs.YtnbleinhabllnaaDoorW.PrintWords Go.Proofs.YtnbleinhabllnaaDoorW.PrintLast Go.Proofs.YtnbleinhabllnaaDoorW.PrintMore
set_option linter.unusedVariables false
set_option linter.unusedSimpArgs false

theorem within_some (a b c : Int) : impl_within.f a b c = some (decide (b ≤ a ∧ a ≤ c)) := by
  unfold impl_within.f
  by_cases h : a ≥ b
  · rw [if_pos h]; have h' : b ≤ a := h; simp [h']
  · rw [if_neg h]; have h' : ¬ b ≤ a := h; simp [h']

theorem l1In_some (a b c : Int) : spec_l1In.f a b c = some (decide (b ≤ a ∧ a ≤ c)) := by
  unfold spec_l1In.f
  by_cases h : a ≥ b
  · rw [if_pos h]; have h' : b ≤ a := h; simp [h']
  · rw [if_neg h]; have h' : ¬ b ≤ a := h; simp [h']

/-! #### where a token comes by a jump -/
def beg : List S61 → Int → Int × Bool
  | [], s => (s, false)
  | x :: xs, s => if x.f0 = s then (x.f1, true) else beg xs s

theorem beg_cons (x : S61) (xs : List S61) (s : Int) : beg (x :: xs) s = if x.f0 = s then (x.f1, true) else beg xs s := rfl

theorem begins_l0 (l : List S61) (s : Int) (hl : l.length ≤ 1099511627776) : ∀ (d i k : Nat), i + d = l.length → d < k →
    impl_Board_begins.l0 k s l (l.length : Int) (i : Int) = some (beg (l.drop i) s)
  | 0, i, k, h1, h3 => by
    obtain ⟨k, rfl⟩ : ∃ m, k = m + 1 := ⟨k - 1, by omega⟩
    simp only [impl_Board_begins.l0]
    rw [if_neg (nat_nlt (by omega)), List.drop_of_length_le (by omega)]
    rfl
  | d + 1, i, k, h1, h3 => by
    obtain ⟨k, rfl⟩ : ∃ m, k = m + 1 := ⟨k - 1, by omega⟩
    have hi : i < l.length := by omega
    simp only [impl_Board_begins.l0]
    rw [if_pos (nat_lt hi), if_pos (nat_nn i), if_pos (nat_lt hi), rdJ_at hi, w64_succ (by omega), begins_l0 l s hl d (i + 1) k (by omega) (by omega), List.drop_eq_getElem_cons hi, beg_cons]
    by_cases h : l[i].f0 = s
    · rw [if_pos h, if_pos h]
    · rw [if_neg h, if_neg h]

theorem begins_eq (a b c : Int) (l : List S61) (s : Int) (hl : l.length ≤ 1099511627776) (k : Nat) (hk : l.length < k) : impl_Board_begins.f k a b c l s = some (beg l s) := by
  unfold impl_Board_begins.f
  have := begins_l0 l s hl l.length 0 k (by omega) hk
  rw [show ((0 : Nat) : Int) = 0 from rfl] at this
  rw [this, List.drop_zero]

theorem sqJump_l0 (l : List S61) (s : Int) (hl : l.length ≤ 1099511627776) : ∀ (d i k : Nat), i + d = l.length → d < k →
    spec_sqJump.l0 k s l (l.length : Int) (i : Int) = some (beg (l.drop i) s).1
  | 0, i, k, h1, h3 => by
    obtain ⟨k, rfl⟩ : ∃ m, k = m + 1 := ⟨k - 1, by omega⟩
    simp only [spec_sqJump.l0]
    rw [if_neg (nat_nlt (by omega)), List.drop_of_length_le (by omega)]
    rfl
  | d + 1, i, k, h1, h3 => by
    obtain ⟨k, rfl⟩ : ∃ m, k = m + 1 := ⟨k - 1, by omega⟩
    have hi : i < l.length := by omega
    simp only [spec_sqJump.l0]
    rw [if_pos (nat_lt hi), if_pos (nat_nn i), if_pos (nat_lt hi), rdJ_at hi, w64_succ (by omega), sqJump_l0 l s hl d (i + 1) k (by omega) (by omega), List.drop_eq_getElem_cons hi, beg_cons]
    by_cases h : l[i].f0 = s
    · rw [if_pos h, if_pos h]
    · rw [if_neg h, if_neg h]

theorem sqJump_eq (a b c : Int) (l : List S61) (s : Int) (hl : l.length ≤ 1099511627776) (k : Nat) (hk : l.length < k) : spec_sqJump.f k a b c l s = some (beg l s).1 := by
  unfold spec_sqJump.f
  have := sqJump_l0 l s hl l.length 0 k (by omega) hk
  rw [show ((0 : Nat) : Int) = 0 from rfl] at this
  rw [this, List.drop_zero]

theorem beg_true : ∀ (l : List S61) (s : Int), (beg l s).2 = true → ∃ x ∈ l, x.f0 = s ∧ x.f1 = (beg l s).1
  | [], s, h => by simp [beg] at h
  | x :: xs, s, h => by
    unfold beg at h ⊢
    by_cases e : x.f0 = s
    · rw [if_pos e]; exact ⟨x, List.mem_cons_self .., e, rfl⟩
    · rw [if_neg e] at h ⊢
      obtain ⟨y, hy, h1, h2⟩ := beg_true xs s h
      exact ⟨y, List.mem_cons_of_mem _ hy, h1, h2⟩

theorem beg_false : ∀ (l : List S61) (s : Int), (beg l s).2 = false → (beg l s).1 = s ∧ ∀ x ∈ l, x.f0 ≠ s
  | [], s, h => ⟨rfl, fun x hx => by simp at hx⟩
  | x :: xs, s, h => by
    unfold beg at h ⊢
    by_cases e : x.f0 = s
    · rw [if_pos e] at h; cases h
    · rw [if_neg e] at h ⊢
      obtain ⟨h1, h2⟩ := beg_false xs s h
      refine ⟨h1, fun y hy => ?_⟩
      rcases List.mem_cons.mp hy with rfl | hy
      · exact e
      · exact h2 y hy

/-! #### what is asked of a board -/
abbrev gJ (l : List S61) (i : Nat) : S61 := rd_T61 l (i : Int)

def okB (a : Int) (l : List S61) (i : Nat) : Bool :=
  decide (1 ≤ (gJ l i).f0 ∧ (gJ l i).f0 ≤ a - 1) && (decide (0 ≤ (gJ l i).f1 ∧ (gJ l i).f1 ≤ a) && ((decide (i = 0) || decide ((gJ l (i - 1)).f0 < (gJ l i).f0)) && !(beg l (gJ l i).f1).2))

def allFrom (p : Nat → Bool) : Nat → Nat → Bool
  | _, 0 => true
  | i, d + 1 => p i && allFrom p (i + 1) d

theorem allFrom_succ (p : Nat → Bool) (i d : Nat) : allFrom p i (d + 1) = (p i && allFrom p (i + 1) d) := rfl

theorem okB_def (a : Int) (l : List S61) (i : Nat) : okB a l i = (decide (1 ≤ (gJ l i).f0 ∧ (gJ l i).f0 ≤ a - 1) && (decide (0 ≤ (gJ l i).f1 ∧ (gJ l i).f1 ≤ a) && ((decide (i = 0) || decide ((gJ l (i - 1)).f0 < (gJ l i).f0)) && !(beg l (gJ l i).f1).2))) := rfl

theorem allFrom_iff (p : Nat → Bool) : ∀ (d i : Nat), allFrom p i d = true ↔ ∀ j, i ≤ j → j < i + d → p j = true
  | 0, i => ⟨fun _ j h1 h2 => by omega, fun _ => rfl⟩
  | d + 1, i => by
    unfold allFrom
    rw [Bool.and_eq_true, allFrom_iff p d (i + 1)]
    constructor
    · rintro ⟨h0, h⟩ j h1 h2
      by_cases e : j = i
      · rw [e]; exact h0
      · exact h j (by omega) (by omega)
    · intro h
      exact ⟨h i (by omega) (by omega), fun j h1 h2 => h j (by omega) (by omega)⟩

theorem isBoard_l0 (a b c : Int) (l : List S61) (hl : l.length ≤ 20) (ha : 1 ≤ a ∧ a ≤ 100) : ∀ (d i k : Nat), i + d = l.length → 2 * d + 22 < k →
    impl_IsBoard.l0 k l (l.length : Int) (i : Int) a b c l = some (allFrom (okB a l) i d)
  | 0, i, k, h1, h3 => by
    obtain ⟨k, rfl⟩ : ∃ m, k = m + 1 := ⟨k - 1, by omega⟩
    simp only [impl_IsBoard.l0]
    rw [if_neg (nat_nlt (by omega))]
    rfl
  | d + 1, i, k, h1, h3 => by
    obtain ⟨k, rfl⟩ : ∃ m, k = m + 1 + 1 := ⟨k - 2, by omega⟩
    have hi : i < l.length := by omega
    have ih := isBoard_l0 a b c l hl ha d (i + 1) k (by omega) (by omega)
    have hj2 : ∀ x67 : Bool, impl_IsBoard.j2 (k + 1) l (l.length : Int) (i : Int) x67 a b c l (gJ l i).f0 (gJ l i).f1 = some (!x67 && (!(beg l (gJ l i).f1).2 && allFrom (okB a l) (i + 1) d)) := fun x67 => by
      simp only [impl_IsBoard.j2]
      cases x67 with
      | true => rfl
      | false =>
        rw [if_neg (by decide), begins_eq a b c l _ (by omega) k (by omega), w64_succ (by omega), ih]
        simp only [Option.bind_some]
        cases (beg l (gJ l i).f1).2 <;> simp
    simp only [impl_IsBoard.l0, within_some, Option.bind_some]
    rw [if_pos (nat_lt hi), if_pos (nat_nn i), if_pos (nat_lt hi), w64 (a - 1) (by omega) (by omega)]
    rw [allFrom_succ, okB_def]
    by_cases c1 : 1 ≤ (gJ l i).f0 ∧ (gJ l i).f0 ≤ a - 1
    · rw [if_pos (decide_eq_true c1), decide_eq_true c1]
      by_cases c2 : 0 ≤ (gJ l i).f1 ∧ (gJ l i).f1 ≤ a
      · rw [if_pos (decide_eq_true c2), decide_eq_true c2]
        by_cases c3 : i = 0
        · rw [if_neg (by omega), hj2 false, decide_eq_true c3]
          simp
        · rw [if_pos (by omega), w64 ((i : Int) - 1) (by omega) (by omega), if_pos (by omega), if_pos (by omega), hj2, show ((i : Int) - 1) = ((i - 1 : Nat) : Int) by omega]
          have e : (!decide ((gJ l (i - 1)).f0 ≥ (gJ l i).f0)) = decide ((gJ l (i - 1)).f0 < (gJ l i).f0) := by
            by_cases h : (gJ l (i - 1)).f0 < (gJ l i).f0
            · rw [decide_eq_true h, decide_eq_false (by omega)]; rfl
            · rw [decide_eq_false h, decide_eq_true (by omega)]; rfl
          rw [e, decide_eq_false c3]
          simp [Bool.and_assoc]
      · rw [if_neg (by rw [decide_eq_false c2]; decide), hj2 true, decide_eq_false c2]
        simp
    · rw [if_neg (by rw [decide_eq_false c1]; decide), hj2 true, decide_eq_false c1]
      simp

def good (a b c : Int) (l : List S61) : Bool :=
  decide (1 ≤ a ∧ a ≤ 100) && (decide (1 ≤ b ∧ b ≤ 8) && (decide (0 ≤ c ∧ c ≤ 2) && (decide (l.length ≤ 20) && allFrom (okB a l) 0 l.length)))

theorem isBoard_eq (a b c : Int) (l : List S61) (k : Nat) (hk : 70 ≤ k) : impl_IsBoard.f k a b c l = some (good a b c l) := by
  unfold impl_IsBoard.f good
  simp only [within_some, Option.bind_some]
  obtain ⟨k, rfl⟩ : ∃ m, k = m + 1 := ⟨k - 1, by omega⟩
  have hj : ∀ x : Bool, impl_IsBoard.j0 (k + 1) x a b c l = if x = true then some false else impl_IsBoard.l0 k l (l.length : Int) 0 a b c l := fun x => by simp only [impl_IsBoard.j0]
  simp only [hj]
  by_cases c1 : 1 ≤ a ∧ a ≤ 100
  · rw [if_pos (decide_eq_true c1), decide_eq_true c1]
    by_cases c2 : 1 ≤ b ∧ b ≤ 8
    · rw [if_pos (decide_eq_true c2), decide_eq_true c2]
      by_cases c3 : 0 ≤ c ∧ c ≤ 2
      · rw [if_pos (decide_eq_true c3), decide_eq_true c3]
        by_cases c4 : l.length ≤ 20
        · rw [if_neg (by rw [decide_eq_false (by omega)]; decide), decide_eq_true c4]
          have := isBoard_l0 a b c l c4 c1 l.length 0 k (by omega) (by omega)
          rw [show ((0 : Nat) : Int) = 0 from rfl] at this
          rw [this]
          simp
        · rw [if_pos (decide_eq_true (by omega)), decide_eq_false c4]
          simp
      · rw [if_neg (by rw [decide_eq_false c3]; decide), decide_eq_false c3]
        simp
    · rw [if_neg (by rw [decide_eq_false c2]; decide), decide_eq_false c2]
      simp
  · rw [if_neg (by rw [decide_eq_false c1]; decide), decide_eq_false c1]
    simp

def sqB (a : Int) (l : List S61) (i : Nat) : Bool :=
  decide (1 ≤ (gJ l i).f0 ∧ (gJ l i).f0 ≤ a - 1) && (decide (0 ≤ (gJ l i).f1 ∧ (gJ l i).f1 ≤ a) && (!((gJ l i).f0 == (gJ l i).f1) && (decide (i = 0) || decide ((gJ l (i - 1)).f0 < (gJ l i).f0))))

def fixB (l : List S61) (i : Nat) : Bool := (beg l (gJ l i).f1).1 == (gJ l i).f1

theorem sqB_def (a : Int) (l : List S61) (i : Nat) : sqB a l i = (decide (1 ≤ (gJ l i).f0 ∧ (gJ l i).f0 ≤ a - 1) && (decide (0 ≤ (gJ l i).f1 ∧ (gJ l i).f1 ≤ a) && (!((gJ l i).f0 == (gJ l i).f1) && (decide (i = 0) || decide ((gJ l (i - 1)).f0 < (gJ l i).f0))))) := rfl

theorem fixB_def (l : List S61) (i : Nat) : fixB l i = ((beg l (gJ l i).f1).1 == (gJ l i).f1) := rfl

theorem sqGood_l1 (a b c : Int) (l : List S61) (hl : l.length ≤ 20) : ∀ (d i k : Nat), i + d = l.length → d + 21 < k →
    spec_sqGood.l1 k l (l.length : Int) (i : Int) a b c l = some (allFrom (fixB l) i d)
  | 0, i, k, h1, h3 => by
    obtain ⟨k, rfl⟩ : ∃ m, k = m + 1 := ⟨k - 1, by omega⟩
    simp only [spec_sqGood.l1]
    rw [if_neg (nat_nlt (by omega))]
    rfl
  | d + 1, i, k, h1, h3 => by
    obtain ⟨k, rfl⟩ : ∃ m, k = m + 1 := ⟨k - 1, by omega⟩
    have hi : i < l.length := by omega
    have ih := sqGood_l1 a b c l hl d (i + 1) k (by omega) (by omega)
    simp only [spec_sqGood.l1]
    rw [if_pos (nat_lt hi), if_pos (nat_nn i), if_pos (nat_lt hi), sqJump_eq a b c l _ (by omega) k (by omega), w64_succ (by omega), ih]
    simp only [Option.bind_some]
    rw [allFrom_succ, fixB_def]
    by_cases h : (beg l (gJ l i).f1).1 = (gJ l i).f1
    · rw [if_pos h, beq_iff_eq.mpr h]; rfl
    · rw [if_neg h, beq_eq_false_iff_ne.mpr h]; rfl

theorem sqGood_l0 (a b c : Int) (l : List S61) (hl : l.length ≤ 20) (ha : 1 ≤ a ∧ a ≤ 100) : ∀ (d i k : Nat), i + d = l.length → 2 * d + 45 < k →
    spec_sqGood.l0 k l (l.length : Int) (i : Int) a b c l = some (allFrom (sqB a l) i d && allFrom (fixB l) 0 l.length)
  | 0, i, k, h1, h3 => by
    obtain ⟨k, rfl⟩ : ∃ m, k = m + 1 := ⟨k - 1, by omega⟩
    simp only [spec_sqGood.l0]
    have := sqGood_l1 a b c l hl l.length 0 k (by omega) (by omega)
    rw [show ((0 : Nat) : Int) = 0 from rfl] at this
    rw [if_neg (nat_nlt (by omega)), this]
    rfl
  | d + 1, i, k, h1, h3 => by
    obtain ⟨k, rfl⟩ : ∃ m, k = m + 1 + 1 := ⟨k - 2, by omega⟩
    have hi : i < l.length := by omega
    have ih := sqGood_l0 a b c l hl ha d (i + 1) k (by omega) (by omega)
    have hj2 : ∀ x : Bool, spec_sqGood.j2 (k + 1) (i : Int) l (l.length : Int) (i : Int) x a b c l (gJ l i).f0 (gJ l i).f1 = some (!x && ((decide (i = 0) || decide ((gJ l (i - 1)).f0 < (gJ l i).f0)) && (allFrom (sqB a l) (i + 1) d && allFrom (fixB l) 0 l.length))) := fun x => by
      simp only [spec_sqGood.j2]
      cases x with
      | true => rfl
      | false =>
        rw [if_neg (by decide), w64_succ (by omega), ih]
        by_cases c3 : i = 0
        · rw [if_neg (by omega), decide_eq_true c3]
          simp
        · rw [if_pos (by omega), w64 ((i : Int) - 1) (by omega) (by omega), if_pos (by omega), if_pos (by omega), show ((i : Int) - 1) = ((i - 1 : Nat) : Int) by omega]
          by_cases h : (gJ l (i - 1)).f0 < (gJ l i).f0
          · rw [if_neg (show ¬ ((gJ l (i - 1)).f0 ≥ (gJ l i).f0) by omega), decide_eq_true h]; simp
          · rw [if_pos (show (gJ l (i - 1)).f0 ≥ (gJ l i).f0 by omega), decide_eq_false h, decide_eq_false c3]; simp
    simp only [spec_sqGood.l0, l1In_some, Option.bind_some]
    rw [if_pos (nat_lt hi), if_pos (nat_nn i), if_pos (nat_lt hi), w64 (a - 1) (by omega) (by omega)]
    rw [allFrom_succ, sqB_def]
    by_cases c1 : 1 ≤ (gJ l i).f0 ∧ (gJ l i).f0 ≤ a - 1
    · rw [if_pos (decide_eq_true c1), decide_eq_true c1]
      by_cases c2 : 0 ≤ (gJ l i).f1 ∧ (gJ l i).f1 ≤ a
      · rw [if_pos (decide_eq_true c2), decide_eq_true c2, hj2]
        simp only [Bool.true_and, Bool.and_assoc]
      · rw [if_neg (by rw [decide_eq_false c2]; decide), hj2 true, decide_eq_false c2]
        simp
    · rw [if_neg (by rw [decide_eq_false c1]; decide), hj2 true, decide_eq_false c1]
      simp

theorem asks_same (a : Int) (l : List S61) : (allFrom (sqB a l) 0 l.length && allFrom (fixB l) 0 l.length) = allFrom (okB a l) 0 l.length := by
  have mem : ∀ i, i < l.length → gJ l i ∈ l := fun i hi => by
    show rd_T61 l (i : Int) ∈ l
    rw [rdJ_at hi]
    exact List.getElem_mem hi
  have idx : ∀ x ∈ l, ∃ i, i < l.length ∧ gJ l i = x := fun x hx => by
    obtain ⟨i, hi, e⟩ := List.getElem_of_mem hx
    exact ⟨i, hi, by show rd_T61 l (i : Int) = x; rw [rdJ_at hi]; exact e⟩
  rw [Bool.eq_iff_iff, Bool.and_eq_true, allFrom_iff, allFrom_iff, allFrom_iff]
  constructor
  · rintro ⟨h1, h2⟩ j h0 hj
    have hs := h1 j h0 hj
    have hf := h2 j h0 hj
    have hb : (beg l (gJ l j).f1).2 = false := by
      cases hb : (beg l (gJ l j).f1).2 with
      | false => rfl
      | true =>
        obtain ⟨x, hx, e1, e2⟩ := beg_true l _ hb
        obtain ⟨i, hi, rfl⟩ := idx x hx
        have := h1 i (by omega) (by omega)
        unfold fixB at hf
        rw [beq_iff_eq] at hf
        unfold sqB at this
        simp only [Bool.and_eq_true, Bool.not_eq_true', beq_eq_false_iff_ne] at this
        exact absurd (by omega) this.2.2.1
    unfold sqB at hs
    unfold okB
    simp only [Bool.and_eq_true] at hs ⊢
    exact ⟨hs.1, hs.2.1, hs.2.2.2, by rw [hb]; rfl⟩
  · intro h
    refine ⟨fun j h0 hj => ?_, fun j h0 hj => ?_⟩
    · have ho := h j h0 hj
      unfold okB at ho
      unfold sqB
      simp only [Bool.and_eq_true, Bool.not_eq_true'] at ho ⊢
      refine ⟨ho.1, ho.2.1, ?_, ho.2.2.1⟩
      have := (beg_false l _ ho.2.2.2).2 _ (mem j (by omega))
      rw [beq_eq_false_iff_ne]
      exact this
    · have ho := h j h0 hj
      unfold okB at ho
      unfold fixB
      simp only [Bool.and_eq_true, Bool.not_eq_true'] at ho
      rw [beq_iff_eq]
      exact (beg_false l _ ho.2.2.2).1

theorem sqGood_eq (a b c : Int) (l : List S61) (k : Nat) (hk : 100 ≤ k) : spec_sqGood.f k a b c l = some (good a b c l) := by
  unfold spec_sqGood.f good
  simp only [l1In_some, Option.bind_some]
  obtain ⟨k, rfl⟩ : ∃ m, k = m + 1 := ⟨k - 1, by omega⟩
  have hj : ∀ x : Bool, spec_sqGood.j0 (k + 1) x a b c l = if x = true then some false else spec_sqGood.l0 k l (l.length : Int) 0 a b c l := fun x => by simp only [spec_sqGood.j0]
  simp only [hj]
  by_cases c1 : 1 ≤ a ∧ a ≤ 100
  · rw [if_pos (decide_eq_true c1), decide_eq_true c1]
    by_cases c2 : 1 ≤ b ∧ b ≤ 8
    · rw [if_pos (decide_eq_true c2), decide_eq_true c2]
      by_cases c3 : 0 ≤ c ∧ c ≤ 2
      · rw [if_pos (decide_eq_true c3), decide_eq_true c3]
        by_cases c4 : l.length ≤ 20
        · rw [if_neg (by rw [decide_eq_false (by omega)]; decide), decide_eq_true c4]
          have := sqGood_l0 a b c l c4 c1 l.length 0 k (by omega) (by omega)
          rw [show ((0 : Nat) : Int) = 0 from rfl] at this
          rw [this, asks_same]
          simp
        · rw [if_pos (decide_eq_true (by omega)), decide_eq_false c4]
          simp
      · rw [if_neg (by rw [decide_eq_false c3]; decide), decide_eq_false c3]
        simp
    · rw [if_neg (by rw [decide_eq_false c2]; decide), decide_eq_false c2]
      simp
  · rw [if_neg (by rw [decide_eq_false c1]; decide), decide_eq_false c1]
    simp

/-! #### what a board that is good gives -/
structure Board (a b c : Int) (l : List S61) : Prop where
  a1 : 1 ≤ a
  a2 : a ≤ 100
  b1 : 1 ≤ b
  b2 : b ≤ 8
  c1 : 0 ≤ c
  c2 : c ≤ 2
  len : l.length ≤ 20
  jump : ∀ x ∈ l, 1 ≤ x.f0 ∧ x.f0 ≤ a - 1 ∧ 0 ≤ x.f1 ∧ x.f1 ≤ a ∧ (beg l x.f1).2 = false

theorem Board.of_good {a b c : Int} {l : List S61} (h : good a b c l = true) : Board a b c l := by
  unfold good at h
  simp only [Bool.and_eq_true, decide_eq_true_eq] at h
  obtain ⟨⟨h1, h2⟩, ⟨h3, h4⟩, ⟨h5, h6⟩, h7, h8⟩ := h
  refine ⟨h1, h2, h3, h4, h5, h6, h7, fun x hx => ?_⟩
  obtain ⟨i, hi, e⟩ := List.getElem_of_mem hx
  have ho := (allFrom_iff _ _ _).mp h8 i (by omega) (by omega)
  unfold okB at ho
  simp only [Bool.and_eq_true, decide_eq_true_eq, Bool.not_eq_true'] at ho
  have eg : gJ l i = x := by show rd_T61 l (i : Int) = x; rw [rdJ_at hi]; exact e
  rw [eg] at ho
  exact ⟨ho.1.1, ho.1.2, ho.2.1.1, ho.2.1.2, ho.2.2.2⟩

end Go.Proofs.YtnbleinhabllnaaDoor.Pr
