/- Proved here: the law FnExactAverageSum answers true at all that comes in; no other condition. -/
import Derived.Test.YteiceakgiilbgaaFLawsFnExactAverageSum
import Derived.Test.YteiceakgiilbgaaPW4
namespace Go.Proofs.Yteiceakgiilbgaa.Pure
open Go.RowKit Go.Proofs.Yteiceakgiilbgaa.Pr Go.Proofs.YteiceakgiilbgaaW.PrintWords Go.Proofs.YteiceakgiilbgaaW.PrintLast
set_option linter.unusedSimpArgs false
set_option linter.unusedVariables false

/-! #### the sum of all sums -/
theorem sumN_split (f : Nat → Int) (a : Nat) : ∀ b, sumN (a + b) f = sumN a f + sumN b (fun i => f (a + i))
  | 0 => by simp [sumN]
  | b + 1 => by
    show sumN (a + b) f + f (a + b) = sumN a f + (sumN b (fun i => f (a + i)) + f (a + b))
    rw [sumN_split f a b]
    omega

theorem sumN_shift {g : Int → Int} {L : Nat} (h0 : ∀ u, u < 0 → g u = 0) (h1 : ∀ u, (L : Int) ≤ u → g u = 0) (h : Int → Int) (p r : Nat) : sumN (p + (L + r)) (fun t => h (t : Int) * g ((t : Int) - p)) = sumN L (fun u => h ((u : Int) + p) * g (u : Int)) := by
  rw [sumN_split, sumN_congr (g := fun _ => 0) p (fun i hi => by rw [h0 _ (by omega), Int.mul_zero]), sumN_zero, sumN_split, sumN_congr (g := fun _ => 0) r (fun i hi => by rw [h1 _ (by omega), Int.mul_zero]), sumN_zero]
  rw [Int.zero_add, Int.add_zero]
  refine sumN_congr L fun i hi => ?_
  rw [show ((p + i : Nat) : Int) = (i : Int) + p by omega, show (i : Int) + (p : Int) - p = i by omega]

def Zm (F k : Nat) : Int := sumN (k * F + 1) (fun s => Sw F k (s : Int))
def Mm (F k : Nat) : Int := sumN (k * F + 1) (fun s => (s : Int) * Sw F k (s : Int))

theorem sumN_mul' (c : Int) (f : Nat → Int) (n : Nat) : sumN n (fun i => f i * c) = sumN n f * c := by
  rw [Int.mul_comm, ← sumN_mul]
  exact sumN_congr n fun i _ => Int.mul_comm _ _

theorem sumN_const (c : Int) : ∀ n, sumN n (fun _ => c) = n * c
  | 0 => by simp [sumN]
  | n + 1 => by
    show sumN n _ + c = _
    rw [sumN_const c n, show ((n + 1 : Nat) : Int) = (n : Int) + 1 by omega, Int.add_mul, Int.one_mul]

theorem tri : ∀ n : Nat, 2 * sumN n (fun i => (i : Int) + 1) = (n : Int) * ((n : Int) + 1)
  | 0 => by simp [sumN]
  | n + 1 => by
    show 2 * (sumN n _ + ((n : Int) + 1)) = _
    rw [Int.mul_add, tri n, show ((n + 1 : Nat) : Int) = (n : Int) + 1 by omega, ← Int.add_mul, Int.mul_comm]
    congr 1

theorem Sw_hi (F k : Nat) (u : Int) (h : ((k * F + 1 : Nat) : Int) ≤ u) : Sw F k u = 0 := by
  refine Sw_out F k u (.inr ?_)
  rw [Int.mul_comm, ← Int.natCast_mul]
  omega

theorem step_sum (F k : Nat) (h : Int → Int) : sumN ((k + 1) * F + 1) (fun t => h (t : Int) * Sw F (k + 1) (t : Int)) = sumN F (fun i => sumN (k * F + 1) (fun u => h ((u : Int) + ((i + 1 : Nat) : Int)) * Sw F k (u : Int))) := by
  rw [sumN_congr ((k + 1) * F + 1) (g := fun t => sumN F (fun i => h (t : Int) * Sw F k ((t : Int) - ((i : Int) + 1)))) (fun t _ => by rw [Sw_succ, sumN_mul]), sumN_swap]
  refine sumN_congr F fun i hi => ?_
  have e : (k + 1) * F + 1 = (i + 1) + ((k * F + 1) + (F - (i + 1))) := by rw [Nat.add_mul, Nat.one_mul]; omega
  rw [e]
  exact sumN_shift (g := Sw F k) (L := k * F + 1) (fun u hu => Sw_out F k u (.inl hu)) (Sw_hi F k) h (i + 1) (F - (i + 1))

theorem Zm_eq (F : Nat) : ∀ k, Zm F k = (F : Int) ^ k
  | 0 => by
    unfold Zm
    rw [Nat.zero_mul]
    rfl
  | k + 1 => by
    have h := step_sum F k (fun _ => 1)
    unfold Zm
    rw [sumN_congr ((k + 1) * F + 1) (g := fun t => 1 * Sw F (k + 1) (t : Int)) (fun t _ => (Int.one_mul _).symm), h, sumN_congr F (g := fun _ => Zm F k) (fun i _ => by unfold Zm; exact sumN_congr _ fun u _ => Int.one_mul _), sumN_const, Zm_eq F k, Int.pow_succ, Int.mul_comm]

theorem Mm_succ (F k : Nat) : Mm F (k + 1) = F * Mm F k + sumN F (fun i => (i : Int) + 1) * Zm F k := by
  have h := step_sum F k (fun t => t)
  unfold Mm
  rw [h, sumN_congr F (g := fun i => Mm F k + ((i : Int) + 1) * Zm F k) (fun i _ => ?_), sumN_add, sumN_const, sumN_mul']
  · rfl
  · unfold Mm Zm
    rw [← sumN_mul, ← sumN_add]
    refine sumN_congr _ fun u _ => ?_
    rw [Int.add_mul, show ((i + 1 : Nat) : Int) = (i : Int) + 1 by omega]

theorem Mm_eq (F : Nat) : ∀ k, 2 * Mm F k = (k : Int) * ((F : Int) + 1) * (F : Int) ^ k
  | 0 => by
    unfold Mm
    rw [Nat.zero_mul]
    simp [sumN]
  | k + 1 => by
    have e : 2 * (sumN F (fun i => (i : Int) + 1) * Zm F k) = (F : Int) * ((F : Int) + 1) * (F : Int) ^ k := by
      rw [← Int.mul_assoc, tri, Zm_eq]
    have e2 : 2 * ((F : Int) * Mm F k) = (F : Int) * ((k : Int) * ((F : Int) + 1) * (F : Int) ^ k) := by
      rw [← Mm_eq F k, Int.mul_left_comm]
    rw [Mm_succ, Int.mul_add, e, e2, Int.pow_succ, show ((k + 1 : Nat) : Int) = (k : Int) + 1 by omega]
    generalize (F : Int) ^ k = P
    generalize (F : Int) + 1 = G
    generalize (F : Int) = f
    generalize (k : Int) = q
    rw [Int.add_mul, Int.one_mul, Int.add_mul]
    have a1 : f * (q * G * P) = q * G * (P * f) := by rw [Int.mul_comm f, Int.mul_assoc (q * G)]
    have a2 : f * G * P = G * (P * f) := by rw [Int.mul_comm f G, Int.mul_assoc, Int.mul_comm f P]
    rw [a1, a2]

/-! #### in lowest terms -/
theorem low_mono : ∀ (k : Nat) (a b c d : Int) (v : Int × Int), impl_lowest.l0 k a b c d = some v → ∀ m, impl_lowest.l0 (k + m) a b c d = some v
  | 0, a, b, c, d, v, h, m => by simp [impl_lowest.l0] at h
  | k + 1, a, b, c, d, v, h, m => by
    rw [show k + 1 + m = (k + m) + 1 by omega]
    simp only [impl_lowest.l0] at h ⊢
    by_cases e : d = 0
    · rw [if_pos e] at h ⊢
      exact h
    · rw [if_neg e] at h ⊢
      exact low_mono k a b _ _ v h m

theorem chLow_mono : ∀ (k : Nat) (a b c d : Int) (v : Int × Int), spec_chLow.l0 k a b c d = some v → ∀ m, spec_chLow.l0 (k + m) a b c d = some v
  | 0, a, b, c, d, v, h, m => by simp [spec_chLow.l0] at h
  | k + 1, a, b, c, d, v, h, m => by
    rw [show k + 1 + m = (k + m) + 1 by omega]
    simp only [spec_chLow.l0] at h ⊢
    by_cases e : d > 0
    · rw [if_pos e] at h ⊢
      by_cases e2 : d = 0
      · rw [if_pos e2] at h; cases h
      · rw [if_neg e2] at h ⊢
        exact chLow_mono k a b _ _ v h m
    · rw [if_neg e] at h ⊢
      exact h

theorem low_all : ∀ d : Fin 9, ∀ F : Fin 13, 1 ≤ d.val → 1 ≤ F.val → (impl_lowest.f 60 (((d.val * (F.val + 1) * F.val ^ d.val / 2 : Nat) : Int)) ((F.val ^ d.val : Nat) : Int)).isSome = true ∧ impl_lowest.f 60 (((d.val * (F.val + 1) * F.val ^ d.val / 2 : Nat) : Int)) ((F.val ^ d.val : Nat) : Int) = spec_chLow.f 60 ((d.val : Int) * ((F.val : Int) + 1)) 2 := by decide +kernel

theorem power_l0 {F d : Nat} (hF : F ≤ 12) (hd : d ≤ 8) : ∀ (e i k : Nat), i + e = d → e < k → impl_power.l0 k (F : Int) ((F : Int) ^ i) (d : Int) (i : Int) = some ((F : Int) ^ d)
  | 0, i, k, h1, h2 => by
    obtain ⟨k, rfl⟩ : ∃ m, k = m + 1 := ⟨k - 1, by omega⟩
    simp only [impl_power.l0]
    rw [if_neg (by omega), show i = d by omega]
  | e + 1, i, k, h1, h2 => by
    obtain ⟨k, rfl⟩ : ∃ m, k = m + 1 := ⟨k - 1, by omega⟩
    have hb : ∀ a : Fin 13, ∀ b : Fin 9, (0 : Int) ≤ ((a.val : Nat) : Int) ^ b.val ∧ ((a.val : Nat) : Int) ^ b.val ≤ 429981696 := by decide +kernel
    have h3 := hb ⟨F, by omega⟩ ⟨i + 1, by omega⟩
    have h3 : (0 : Int) ≤ (F : Int) ^ (i + 1) ∧ (F : Int) ^ (i + 1) ≤ 429981696 := h3
    have ih := power_l0 hF hd e (i + 1) k (by omega) (by omega)
    simp only [impl_power.l0]
    rw [if_pos (by omega), ← Int.pow_succ, w64 ((F : Int) ^ (i + 1)) (by omega) (by omega), w64_succ (by omega)]
    exact ih

theorem power_eq {F d : Nat} (hF : F ≤ 12) (hd : d ≤ 8) (k : Nat) (hk : d < k) : impl_power.f k (F : Int) (d : Int) = some ((F : Int) ^ d) := by
  unfold impl_power.f
  have := power_l0 hF hd d 0 k (by omega) hk
  rw [Int.pow_zero] at this
  exact this

theorem kept_l0 {F d : Nat} (hd : d ≤ 8) (hF : F ≤ 12) (r : List Int) (hr : Sd F d r) (hL : d * F + 1 ≤ 97) (V : Int × Int) (hV : impl_lowest.f 60 (Mm F d) ((F : Int) ^ d) = some V) : ∀ (e i k : Nat), i + e = d * F + 1 → 200 + e < k →
    impl_AverageKept.l0 k (d : Int) (F : Int) (sumN i (fun s => (s : Int) * Sw F d (s : Int))) r (r.length : Int) (i : Int) = some (V.1, V.2, true)
  | 0, i, k, h1, h2 => by
    obtain ⟨k, rfl⟩ : ∃ m, k = m + 1 := ⟨k - 1, by omega⟩
    have hlen := hr.len
    have hi : sumN i (fun s => (s : Int) * Sw F d (s : Int)) = Mm F d := by rw [show i = d * F + 1 by omega]; rfl
    have hlow : impl_lowest.f k (Mm F d) ((F : Int) ^ d) = some V := by
      unfold impl_lowest.f at hV ⊢
      have := low_mono 60 _ _ _ _ V hV (k - 60)
      rw [show 60 + (k - 60) = k by omega] at this
      exact this
    simp only [impl_AverageKept.l0]
    rw [if_neg (by omega), power_eq hF hd k (by omega)]
    simp only [Option.bind_some, impl_told.f]
    rw [hi, hlow]
    rfl
  | e + 1, i, k, h1, h2 => by
    obtain ⟨k, rfl⟩ : ∃ m, k = m + 1 := ⟨k - 1, by omega⟩
    have hlen := hr.len
    have hdFn : ((d * F + 1 : Nat) : Int) = (d : Int) * F + 1 := by rw [Int.natCast_add, Int.natCast_mul]; rfl
    have hv := hr.val (i : Int) (by omega) (by omega)
    have hS0 := Sw_nonneg F d (i : Int)
    have hS1 := Sw_le hF hd (i : Int)
    have t0 : ∀ s : Nat, s < 97 → 0 ≤ (s : Int) * Sw F d (s : Int) ∧ (s : Int) * Sw F d (s : Int) ≤ 50000000000 := fun s hs => by
      have a0 := Sw_nonneg F d (s : Int)
      have a1 := Sw_le hF hd (s : Int)
      refine ⟨Int.mul_nonneg (by omega) a0, ?_⟩
      have := Int.mul_le_mul (show (s : Int) ≤ 97 by omega) a1 a0 (by decide)
      omega
    have b0 := sumN_nonneg (f := fun s => (s : Int) * Sw F d (s : Int)) i (fun s hs => (t0 s (by omega)).1)
    have b1 := sumN_le (f := fun s => (s : Int) * Sw F d (s : Int)) (c := 50000000000) i (fun s hs => (t0 s (by omega)).2)
    have b2 : (i : Int) * 50000000000 ≤ 97 * 50000000000 := Int.mul_le_mul_of_nonneg_right (by omega) (by decide)
    have c0 := t0 i (by omega)
    have ih := kept_l0 hd hF r hr hL V hV e (i + 1) k (by omega) (by omega)
    have q1 : (i : Int) < (r.length : Int) := by omega
    have q2 : (0 : Int) ≤ (i : Int) := by omega
    have q3 : i < 9223372036854775807 := by omega
    have hw : wrap64 (sumN i (fun s => (s : Int) * Sw F d (s : Int)) + wrap64 ((i : Int) * Sw F d (i : Int))) = sumN (i + 1) (fun s => (s : Int) * Sw F d (s : Int)) := by
      rw [w64 ((i : Int) * Sw F d (i : Int)) (by omega) (by omega), w64 _ (by omega) (by omega)]
      rfl
    simp only [impl_AverageKept.l0]
    rw [if_pos q1, if_pos q2, if_pos q1, hv, hw, w64_succ q3]
    exact ih

theorem Mm_nat (F d : Nat) : Mm F d = ((d * (F + 1) * F ^ d / 2 : Nat) : Int) := by
  have h := Mm_eq F d
  have e : (((d * (F + 1) * F ^ d : Nat)) : Int) = (d : Int) * ((F : Int) + 1) * (F : Int) ^ d := by
    rw [Int.natCast_mul, Int.natCast_mul, Int.natCast_pow]
    rfl
  rw [← e] at h
  generalize d * (F + 1) * F ^ d = q at h ⊢
  generalize Mm F d = M at h ⊢
  omega

theorem low_one {d F : Nat} (d1 : 1 ≤ d) (d8 : d ≤ 8) (F1 : 1 ≤ F) (F12 : F ≤ 12) : ∃ V, impl_lowest.f 60 (Mm F d) ((F : Int) ^ d) = some V ∧ spec_chLow.f 60 ((d : Int) * ((F : Int) + 1)) 2 = some V := by
  have hall := low_all ⟨d, Nat.lt_succ_of_le d8⟩ ⟨F, Nat.lt_succ_of_le F12⟩ d1 F1
  rw [Mm_nat, ← Int.natCast_pow]
  obtain ⟨V, hV⟩ := Option.isSome_iff_exists.mp hall.1
  exact ⟨V, hV, hall.2.symm.trans hV⟩

theorem chLow_any {x : Int} {V : Int × Int} (h : spec_chLow.f 60 x 2 = some V) (k : Nat) (hk : 60 ≤ k) : spec_chLow.f k x 2 = some V := by
  unfold spec_chLow.f at h ⊢
  have h3 := chLow_mono 60 _ _ _ _ V h (k - 60)
  rw [show 60 + (k - 60) = k by omega] at h3
  exact h3

theorem kept_eq {d F : Nat} (d1 : 1 ≤ d) (d8 : d ≤ 8) (F1 : 1 ≤ F) (F12 : F ≤ 12) (V : Int × Int) (hV : impl_lowest.f 60 (Mm F d) ((F : Int) ^ d) = some V) (k : Nat) (hk : 30002 ≤ k) : impl_AverageKept.f k (d : Int) (F : Int) (d : Int) = some (V.1, V.2, true) := by
  obtain ⟨k, rfl⟩ : ∃ m, k = m + 1 := ⟨k - 1, by omega⟩
  obtain ⟨r, hr, e1, _⟩ := tables_eq d1 d8 F1 F12 k (by omega)
  have hL : d * F ≤ 8 * 12 := Nat.mul_le_mul d8 F12
  have hk := kept_l0 d8 F12 r hr (by omega) V hV (d * F + 1) 0 k (by omega) (by omega)
  have hok : okD (d : Int) (F : Int) = true := by
    unfold okD
    rw [decide_eq_true (show 1 ≤ (d : Int) ∧ (d : Int) ≤ 8 by omega), decide_eq_true (show 1 ≤ (F : Int) ∧ (F : Int) ≤ 12 by omega)]
    rfl
  unfold impl_AverageKept.f
  rw [areDice_eq, hok]
  simp only [within_some, Option.bind_some, if_true]
  rw [decide_eq_true (show 1 ≤ (d : Int) ∧ (d : Int) ≤ d by omega)]
  simp only [impl_AverageKept.j0, Bool.not_true, Bool.false_eq_true, if_false]
  rw [e1]
  simp only [Option.bind_some]
  exact hk

theorem kept_no {a b : Int} (h : ¬ okD a b = true) (c : Int) (k : Nat) : impl_AverageKept.f (k + 1) a b c = some (0, 0, false) := by
  unfold impl_AverageKept.f
  rw [areDice_eq]
  simp only [Option.bind_some]
  rw [if_neg h]
  simp only [impl_AverageKept.j0]
  rw [if_pos trivial]

theorem FnExactAverageSum : laws_FnExactAverageSum.Pure := by
  intro a b _ _
  obtain ⟨K, hK⟩ : ∃ K, K = 30010 := ⟨_, rfl⟩
  refine ⟨K + 1, ?_⟩
  unfold laws_FnExactAverageSum.f spec_AverageSum.f impl_AverageSum.f
  rw [diAsked_eq]
  simp only [Option.bind_some]
  by_cases h : okD a b = true
  · rw [if_pos h]
    obtain ⟨d, F, rfl, rfl, d1, d8, F1, F12⟩ := okD_nat h
    obtain ⟨V, hV, hC⟩ := low_one d1 d8 F1 F12
    have hdf : (d : Int) * ((F : Int) + 1) ≤ 8 * 13 := Int.mul_le_mul (by omega) (by omega) (by omega) (by decide)
    have hdf0 : 0 ≤ (d : Int) * ((F : Int) + 1) := Int.mul_nonneg (by omega) (by omega)
    rw [w64 ((F : Int) + 1) (by omega) (by omega), w64 _ (by omega) (by omega), chLow_any hC (K + 1) (by omega), kept_eq d1 d8 F1 F12 V hV (K + 1) (by omega)]
    simp
  · rw [if_neg h, kept_no h]
    simp

end Go.Proofs.Yteiceakgiilbgaa.Pure
