/- Proved here: throws of dice counted by their greatest faces are throws counted one by one; no program in sight; no condition. -/
import Derived.Test.YteiceakgiilbgaaF0
namespace Go.Proofs.Yteiceakgiilbgaa.Pr
set_option linter.unusedVariables false
set_option linter.unusedSimpArgs false

/-! #### finite sums -/
def sumN : Nat → (Nat → Int) → Int
  | 0, _ => 0
  | n + 1, f => sumN n f + f n

theorem sumN_congr {f g : Nat → Int} : ∀ n, (∀ i, i < n → f i = g i) → sumN n f = sumN n g
  | 0, _ => rfl
  | n + 1, h => by
    unfold sumN
    rw [sumN_congr n (fun i hi => h i (by omega)), h n (by omega)]

theorem sumN_add (f g : Nat → Int) : ∀ n, sumN n (fun i => f i + g i) = sumN n f + sumN n g
  | 0 => rfl
  | n + 1 => by
    show sumN n (fun i => f i + g i) + (f n + g n) = sumN n f + f n + (sumN n g + g n)
    rw [sumN_add f g n]
    omega

theorem sumN_mul (c : Int) (f : Nat → Int) : ∀ n, sumN n (fun i => c * f i) = c * sumN n f
  | 0 => by simp [sumN]
  | n + 1 => by
    unfold sumN
    rw [sumN_mul c f n, Int.mul_add]

theorem sumN_zero : ∀ n, sumN n (fun _ => 0) = 0
  | 0 => rfl
  | n + 1 => by
    unfold sumN
    rw [sumN_zero n]
    rfl

theorem sumN_swap (f : Nat → Nat → Int) (m : Nat) : ∀ n, sumN n (fun i => sumN m (fun j => f i j)) = sumN m (fun j => sumN n (fun i => f i j))
  | 0 => by
    show 0 = sumN m (fun _ => 0)
    exact (sumN_zero m).symm
  | n + 1 => by
    have h := sumN_swap f m n
    show sumN n (fun i => sumN m (fun j => f i j)) + sumN m (fun j => f n j) = sumN m (fun j => sumN n (fun i => f i j) + f n j)
    rw [sumN_add, h]

theorem sumN_first (f : Nat → Int) : ∀ n, sumN (n + 1) f = f 0 + sumN n (fun i => f (i + 1))
  | 0 => by simp [sumN]
  | n + 1 => by
    show sumN (n + 1) f + f (n + 1) = f 0 + (sumN n (fun i => f (i + 1)) + f (n + 1))
    rw [sumN_first f n]
    omega

theorem sumN_flip (f : Nat → Int) : ∀ n, sumN (n + 1) (fun i => f (n - i)) = sumN (n + 1) f
  | 0 => by simp [sumN]
  | n + 1 => by
    rw [sumN_first]
    show f (n + 1 - 0) + sumN (n + 1) (fun i => f (n + 1 - (i + 1))) = sumN (n + 1) f + f (n + 1)
    rw [sumN_congr (n + 1) (g := fun i => f (n - i)) (fun i hi => by rw [show n + 1 - (i + 1) = n - i by omega]), sumN_flip f n, Nat.sub_zero]
    omega

theorem sumN_nonneg {f : Nat → Int} : ∀ n, (∀ i, i < n → 0 ≤ f i) → 0 ≤ sumN n f
  | 0, _ => Int.le_refl 0
  | n + 1, h => by
    unfold sumN
    have := sumN_nonneg n (fun i hi => h i (by omega))
    have := h n (by omega)
    omega

theorem sumN_le {f : Nat → Int} {c : Int} : ∀ n, (∀ i, i < n → f i ≤ c) → sumN n f ≤ n * c
  | 0, _ => by simp [sumN]
  | n + 1, h => by
    unfold sumN
    have := sumN_le n (fun i hi => h i (by omega))
    have := h n (by omega)
    have e : ((n + 1 : Nat) : Int) * c = n * c + c := by rw [show ((n + 1 : Nat) : Int) = (n : Int) + 1 by omega, Int.add_mul, Int.one_mul]
    omega

theorem sumN_part {f : Nat → Int} (hf : ∀ i, 0 ≤ f i) {m n : Nat} (h : m ≤ n) : sumN m f ≤ sumN n f := by
  induction n with
  | zero => rw [show m = 0 by omega]; exact Int.le_refl _
  | succ n ih =>
    by_cases e : m = n + 1
    · rw [e]; exact Int.le_refl _
    · have := ih (by omega)
      have := hf n
      show sumN m f ≤ sumN n f + f n
      omega

/-! #### choices -/
def ch : Nat → Nat → Int
  | _, 0 => 1
  | 0, _ + 1 => 0
  | n + 1, k + 1 => ch n k + ch n (k + 1)

theorem ch_zero (n : Nat) : ch n 0 = 1 := by cases n <;> rfl

theorem ch_out : ∀ (n k : Nat), n < k → ch n k = 0
  | 0, k + 1, _ => rfl
  | n + 1, k + 1, h => by
    show ch n k + ch n (k + 1) = 0
    rw [ch_out n k (by omega), ch_out n (k + 1) (by omega)]
    rfl

theorem ch_nonneg : ∀ (n k : Nat), 0 ≤ ch n k
  | n, 0 => by rw [ch_zero]; decide
  | 0, k + 1 => Int.le_refl 0
  | n + 1, k + 1 => by
    show 0 ≤ ch n k + ch n (k + 1)
    have := ch_nonneg n k
    have := ch_nonneg n (k + 1)
    omega

/-! #### throws by their faces from F down, j of them -/
def Dw (F : Int) : Nat → Nat → Int → Int
  | 0, n, s => if n = 0 ∧ s = 0 then 1 else 0
  | j + 1, m, s => sumN (m + 1) (fun c => ch m c * Dw F j (m - c) (s - (F - j) * c))

theorem Dw_succ (F : Int) (j m : Nat) (s : Int) : Dw F (j + 1) m s = sumN (m + 1) (fun c => ch m c * Dw F j (m - c) (s - (F - j) * c)) := rfl

theorem Dw_none (F : Int) : ∀ (j : Nat) (s : Int), Dw F j 0 s = if s = 0 then 1 else 0
  | 0, s => by simp [Dw]
  | j + 1, s => by
    rw [Dw_succ]
    show 0 + ch 0 0 * Dw F j (0 - 0) (s - (F - j) * ((0 : Nat) : Int)) = _
    rw [ch_zero, show s - (F - (j : Int)) * ((0 : Nat) : Int) = s by simp, Nat.sub_zero, Dw_none F j s]
    omega

/-- the first die apart -/
theorem Dw_one (F : Int) : ∀ (j m : Nat) (s : Int), Dw F j (m + 1) s = sumN j (fun i => Dw F j m (s - (F - i)))
  | 0, m, s => by simp [Dw, sumN]
  | j + 1, m, s => by
    have a : Dw F (j + 1) (m + 1) s = sumN (m + 1) (fun c => ch m c * Dw F j (m - c + 1) (s - (F - j) * c)) + sumN (m + 1) (fun c => ch m c * Dw F j (m - c) (s - (F - j) - (F - j) * c)) := by
      rw [Dw_succ, sumN_first]
      have e1 : sumN (m + 1) (fun i => ch (m + 1) (i + 1) * Dw F j (m + 1 - (i + 1)) (s - (F - j) * ((i + 1 : Nat) : Int))) = sumN (m + 1) (fun i => ch m (i + 1) * Dw F j (m - (i + 1) + 1) (s - (F - j) * ((i + 1 : Nat) : Int))) + sumN (m + 1) (fun c => ch m c * Dw F j (m - c) (s - (F - j) - (F - j) * c)) := by
        rw [← sumN_add]
        refine sumN_congr _ fun i hi => ?_
        have e2 : s - (F - (j : Int)) * ((i + 1 : Nat) : Int) = s - (F - j) - (F - j) * (i : Int) := by
          rw [show ((i + 1 : Nat) : Int) = (i : Int) + 1 by omega, Int.mul_add, Int.mul_one]
          omega
        rw [e2, show m + 1 - (i + 1) = m - i by omega]
        show (ch m i + ch m (i + 1)) * _ = _
        rw [Int.add_mul]
        by_cases h : i = m
        · rw [h, ch_out m (m + 1) (by omega)]
          simp
        · rw [show m - (i + 1) + 1 = m - i by omega]
          omega
      rw [e1]
      have e3 : sumN (m + 1) (fun c => ch m c * Dw F j (m - c + 1) (s - (F - j) * c)) = ch m 0 * Dw F j (m - 0 + 1) (s - (F - j) * ((0 : Nat) : Int)) + sumN m (fun i => ch m (i + 1) * Dw F j (m - (i + 1) + 1) (s - (F - j) * ((i + 1 : Nat) : Int))) := sumN_first _ m
      have e4 : sumN (m + 1) (fun i => ch m (i + 1) * Dw F j (m - (i + 1) + 1) (s - (F - j) * ((i + 1 : Nat) : Int))) = sumN m (fun i => ch m (i + 1) * Dw F j (m - (i + 1) + 1) (s - (F - j) * ((i + 1 : Nat) : Int))) := by
        show _ + ch m (m + 1) * _ = _
        rw [ch_out m (m + 1) (by omega)]
        simp
      rw [e3, e4, ch_zero, ch_zero, Nat.sub_zero, Nat.sub_zero]
      omega
    rw [a]
    show _ = sumN j (fun i => Dw F (j + 1) m (s - (F - i))) + Dw F (j + 1) m (s - (F - j))
    have b : sumN (m + 1) (fun c => ch m c * Dw F j (m - c + 1) (s - (F - j) * c)) = sumN j (fun i => Dw F (j + 1) m (s - (F - i))) := by
      rw [sumN_congr (m + 1) (g := fun c => sumN j (fun i => ch m c * Dw F j (m - c) (s - (F - j) * c - (F - i)))) (fun c hc => by rw [Dw_one F j (m - c), sumN_mul]), sumN_swap]
      refine sumN_congr _ fun i hi => ?_
      rw [Dw_succ]
      refine sumN_congr _ fun c hc => ?_
      rw [show s - (F - (j : Int)) * (c : Int) - (F - i) = s - (F - i) - (F - j) * c by omega]
    rw [b, Dw_succ]

/-! #### throws one by one -/
def Sw (F : Nat) : Nat → Int → Int
  | 0, s => if s = 0 then 1 else 0
  | k + 1, s => sumN F (fun i => Sw F k (s - ((i : Int) + 1)))

theorem Sw_succ (F k : Nat) (s : Int) : Sw F (k + 1) s = sumN F (fun i => Sw F k (s - ((i : Int) + 1))) := rfl

theorem Dw_eq (F : Nat) : ∀ (m : Nat) (s : Int), Dw F F m s = Sw F m s
  | 0, s => Dw_none F F s
  | m + 1, s => by
    rw [Dw_one, Sw_succ]
    cases F with
    | zero => rfl
    | succ F =>
      rw [← sumN_flip]
      refine sumN_congr _ fun i hi => ?_
      rw [Dw_eq (F + 1) m]
      refine congrArg _ ?_
      omega

/-! #### where there are throws, and how many -/
theorem Dw_nonneg (F : Int) : ∀ (j m : Nat) (s : Int), 0 ≤ Dw F j m s
  | 0, m, s => by unfold Dw; split <;> decide
  | j + 1, m, s => sumN_nonneg _ fun c _ => Int.mul_nonneg (ch_nonneg m c) (Dw_nonneg F j _ _)

theorem Dw_out (F : Int) (j : Nat) (hj : (j : Int) ≤ F) : ∀ (m : Nat) (s : Int), (s < 0 ∨ F * m < s) → Dw F j m s = 0
  | 0, s, h => by
    rw [Dw_none, if_neg (by rcases h with h | h; omega; simp at h; omega)]
  | m + 1, s, h => by
    rw [Dw_one]
    rw [sumN_congr j (g := fun _ => 0) (fun i hi => Dw_out F j hj m _ ?_), sumN_zero]
    rcases h with h | h
    · left; omega
    · right
      rw [show ((m + 1 : Nat) : Int) = (m : Int) + 1 by omega, Int.mul_add, Int.mul_one] at h
      omega

theorem Dw_le (F : Int) (j : Nat) (hj : j ≤ 12) : ∀ (m : Nat) (s : Int), Dw F j m s ≤ (12 : Int) ^ m
  | 0, s => by rw [Dw_none]; split <;> decide
  | m + 1, s => by
    rw [Dw_one]
    have h := sumN_le (f := fun i => Dw F j m (s - (F - i))) j (fun i _ => Dw_le F j hj m _)
    have h0 : (0 : Int) ≤ (12 : Int) ^ m := Int.pow_nonneg (by decide)
    have h1 : (j : Int) * (12 : Int) ^ m ≤ 12 * (12 : Int) ^ m := Int.mul_le_mul_of_nonneg_right (by omega) h0
    rw [Int.pow_succ, Int.mul_comm ((12 : Int) ^ m) 12]
    omega

end Go.Proofs.Yteiceakgiilbgaa.Pr
