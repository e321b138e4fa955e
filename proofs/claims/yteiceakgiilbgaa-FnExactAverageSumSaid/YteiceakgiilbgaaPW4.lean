/- Proved here: the reference's table of sums, and that it is the program's one; the conditions are the dice's own bounds. -/
import Derived.Test.YteiceakgiilbgaaPW3
import Derived.Test.YteiceakgiilbgaaFSpecDiSums
import Derived.Test.YteiceakgiilbgaaFSpecDiAsked
import Derived.Test.YteiceakgiilbgaaFImplAreDice
namespace Go.Proofs.Yteiceakgiilbgaa.Pr
open Go.RowKit Go.Proofs.YteiceakgiilbgaaW.PrintWords Go.Proofs.YteiceakgiilbgaaW.PrintLast Go.Proofs.YteiceakgiilbgaaW.PrintMore
set_option linter.unusedVariables false
set_option linter.unusedSimpArgs false
set_option linter.unusedSectionVars false

theorem sumN_one {f g : Nat → Int} {i0 : Nat} {v : Int} : ∀ n, i0 < n → (∀ i, i < n → i ≠ i0 → g i = f i) → g i0 = f i0 + v → sumN n g = sumN n f + v
  | 0, h, _, _ => by omega
  | n + 1, h, h1, h2 => by
    show sumN n g + g n = sumN n f + f n + v
    by_cases e : i0 = n
    · subst e
      rw [sumN_congr (g := f) i0 (fun i hi => h1 i (by omega) (by omega)), h2]
      omega
    · rw [sumN_one n (by omega) (fun i hi => h1 i (by omega)) h2, h1 n (by omega) (by omega)]
      omega

theorem Sw_out (F k : Nat) (s : Int) (h : s < 0 ∨ (F : Int) * k < s) : Sw F k s = 0 := by
  rw [← Dw_eq]
  exact Dw_out F F (Int.le_refl _) k s h

theorem Sw_nonneg (F k : Nat) (s : Int) : 0 ≤ Sw F k s := by
  rw [← Dw_eq]
  exact Dw_nonneg F F k s

theorem Sw_le {F k : Nat} (hF : F ≤ 12) (hk : k ≤ 8) (s : Int) : Sw F k s ≤ 429981696 := by
  rw [← Dw_eq]
  exact Int.le_trans (Dw_le F F hF k s) (pow12 hk)

def Qs (F kk : Nat) (s0 : Int) (f0 : Nat) (t : Int) : Int := sumN F (fun i => if (t - ((i : Int) + 1) < s0 ∨ (t - ((i : Int) + 1) = s0 ∧ i < f0)) then Sw F kk (t - ((i : Int) + 1)) else 0)

structure Sd (F kk : Nat) (l : List Int) : Prop where
  len : l.length = kk * F + 1
  val : ∀ t : Int, 0 ≤ t → t ≤ (kk : Int) * F → rd l t = Sw F kk t

structure Is (F kk : Nat) (l : List Int) (s0 : Int) (f0 : Nat) : Prop where
  len : l.length = (kk + 1) * F + 1
  val : ∀ t : Int, 0 ≤ t → t ≤ ((kk : Int) + 1) * F → rd l t = Qs F kk s0 f0 t

theorem Qs_bound {F kk f0 : Nat} (hF : F ≤ 12) (hk : kk ≤ 8) (s0 t : Int) : 0 ≤ Qs F kk s0 f0 t ∧ Qs F kk s0 f0 t ≤ 6000000000 := by
  unfold Qs
  constructor
  · refine sumN_nonneg F fun i _ => ?_
    split
    · exact Sw_nonneg _ _ _
    · exact Int.le_refl 0
  · have h := sumN_le (f := fun i => if (t - ((i : Int) + 1) < s0 ∨ (t - ((i : Int) + 1) = s0 ∧ i < f0)) then Sw F kk (t - ((i : Int) + 1)) else 0) (c := 429981696) F (fun i _ => by
      show (if _ then _ else _) ≤ _
      split
      · exact Sw_le hF hk _
      · decide)
    have h2 : (F : Int) * 429981696 ≤ 12 * 429981696 := Int.mul_le_mul_of_nonneg_right (by omega) (by decide)
    omega

section
variable {F kk : Nat} (hF1 : 1 ≤ F) (hF : F ≤ 12) (hk8 : kk ≤ 7) (l : List Int) (HS : Sd F kk l)
include hF1 hF hk8 HS

theorem kF_le : (kk : Int) * F ≤ 84 ∧ 0 ≤ (kk : Int) * F ∧ ((kk : Int) + 1) * F = (kk : Int) * F + F ∧ ((kk * F + 1 : Nat) : Int) = (kk : Int) * F + 1 ∧ (((kk + 1) * F + 1 : Nat) : Int) = (kk : Int) * F + F + 1 := by
  have h1 : (kk : Int) * F ≤ 7 * 12 := Int.mul_le_mul (by omega) (by omega) (by omega) (by decide)
  have h2 : 0 ≤ (kk : Int) * F := Int.mul_nonneg (by omega) (by omega)
  have h3 : ((kk : Int) + 1) * F = (kk : Int) * F + F := by rw [Int.add_mul, Int.one_mul]
  refine ⟨by omega, h2, h3, ?_, ?_⟩
  · rw [Int.natCast_add, Int.natCast_mul]; rfl
  · rw [Int.natCast_add, Int.natCast_mul, Int.natCast_add]
    show ((kk : Int) + 1) * F + 1 = _
    omega

theorem ds_l2 (d s : Nat) (hs : (s : Int) ≤ (kk : Int) * F) (x6 x23 : Int) : ∀ (e f k : Nat) (N : List Int), f + e = F → e < k → Is F kk N (s : Int) f →
    ∃ N' k', k ≤ k' + e + 1 ∧ Is F kk N' (s : Int) F ∧ spec_diSums.l2 k (d : Int) (F : Int) x6 N (s : Int) (Sw F kk (s : Int)) ((f : Int) + 1) l x23 (s : Int) = spec_diSums.l1 k' (d : Int) (F : Int) x6 N' l x23 ((s + 1 : Nat) : Int)
  | 0, f, k, N, h1, h2, H => by
    obtain ⟨k, rfl⟩ : ∃ m, k = m + 1 := ⟨k - 1, by omega⟩
    obtain rfl : f = F := h1
    refine ⟨N, k, Nat.le_refl _, H, ?_⟩
    have hs2 : s < 9223372036854775807 := by
      have hb := kF_le hF1 hF hk8 l HS
      omega
    simp only [spec_diSums.l2]
    rw [if_neg (Int.not_le.mpr (Int.lt_succ _)), w64_succ hs2]
  | e + 1, f, k, N, h1, h2, H => by
    obtain ⟨k, rfl⟩ : ∃ m, k = m + 1 := ⟨k - 1, by omega⟩
    have hb := kF_le hF1 hF hk8 l HS
    have e3 : ((s : Int) + (f + 1)).toNat = s + f + 1 := by omega
    have g1 : (f : Int) + 1 ≤ (F : Int) := by omega
    have hlen := H.len
    have hv := H.val ((s : Int) + (f + 1)) (by omega) (by omega)
    have hQ := Qs_bound (F := F) (kk := kk) (f0 := f) hF (by omega) (s : Int) ((s : Int) + (f + 1))
    have hS0 := Sw_nonneg F kk (s : Int)
    have hS1 := Sw_le hF (by omega : kk ≤ 8) (s : Int)
    have hQn : Qs F kk (s : Int) (f + 1) ((s : Int) + (f + 1)) = Qs F kk (s : Int) f ((s : Int) + (f + 1)) + Sw F kk (s : Int) := by
      unfold Qs
      refine sumN_one (i0 := f) F (by omega) (fun i hi hne => ?_) ?_
      · by_cases hc : (s : Int) + (f + 1) - ((i : Int) + 1) < s ∨ ((s : Int) + (f + 1) - ((i : Int) + 1) = s ∧ i < f)
        · rw [if_pos hc, if_pos (by rcases hc with hc | hc; exact .inl hc; exact .inr ⟨hc.1, by omega⟩)]
        · rw [if_neg hc, if_neg (fun e => hc (by rcases e with e | e; exact .inl e; exact .inr ⟨e.1, by omega⟩))]
      · show (if _ then _ else _) = (if _ then _ else _) + _
        rw [if_pos (.inr ⟨by omega, by omega⟩), if_neg (by rintro (h | ⟨_, h⟩) <;> omega), show (s : Int) + (f + 1) - ((f : Int) + 1) = s by omega]
        omega
    obtain ⟨N', k', hk', H', eq⟩ := ds_l2 d s hs x6 x23 e (f + 1) k (N.set (s + f + 1) (Qs F kk (s : Int) (f + 1) ((s : Int) + (f + 1)))) (by omega) (by omega) (by
      refine ⟨by rw [List.length_set]; exact hlen, fun t t0 t1 => ?_⟩
      rw [rdI_set t0 (by omega)]
      by_cases et : t = (s : Int) + (f + 1)
      · rw [if_pos (by omega), et]
      · rw [if_neg (by omega), H.val t t0 t1]
        unfold Qs
        refine sumN_congr F fun i hi => ?_
        by_cases hc : t - ((i : Int) + 1) < s ∨ (t - ((i : Int) + 1) = s ∧ i < f)
        · rw [if_pos hc, if_pos (by rcases hc with hc | hc; exact .inl hc; exact .inr ⟨hc.1, by omega⟩)]
        · rw [if_neg hc, if_neg (fun e => hc (by rcases e with e | e; exact .inl e; exact .inr ⟨e.1, by omega⟩))])
    refine ⟨N', k', by omega, H', ?_⟩
    have c1 : (0 : Int) ≤ (s : Int) + (f + 1) := by omega
    have c2 : (s : Int) + (f + 1) < (N.length : Int) := by omega
    have hQw : wrap64 (Qs F kk (s : Int) (f + 1) ((s : Int) + (f + 1))) = Qs F kk (s : Int) (f + 1) ((s : Int) + (f + 1)) := by
      have hQ1 := Qs_bound (F := F) (kk := kk) (f0 := f + 1) hF (by omega) (s : Int) ((s : Int) + (f + 1))
      clear hQn hQ hS0 hS1 hv
      exact w64 _ (by omega) (by omega)
    have e2 : wrap64 ((f : Int) + 1 + 1) = (f : Int) + 1 + 1 := by clear hQw; exact w64 _ (by omega) (by omega)
    have e1 : wrap64 ((s : Int) + ((f : Int) + 1)) = (s : Int) + (f + 1) := by clear hQw e2; exact w64 _ (by omega) (by omega)
    simp only [spec_diSums.l2, e1]
    rw [if_pos g1, if_pos c1, if_pos c2, hv, ← hQn, hQw, e2, e3]
    exact eq

theorem ds_l1 (d : Nat) (x6 : Int) : ∀ (e s k : Nat) (N : List Int), s + e = kk * F + 1 → 20 * e + 20 < k → Is F kk N (s : Int) 0 →
    ∃ N' k', k ≤ k' + 20 * e + 1 ∧ Sd F (kk + 1) N' ∧ spec_diSums.l1 k (d : Int) (F : Int) x6 N l (l.length : Int) (s : Int) = spec_diSums.l0 k' (d : Int) (F : Int) N' (wrap64 (x6 + 1))
  | 0, s, k, N, h1, h2, H => by
    obtain ⟨k, rfl⟩ : ∃ m, k = m + 1 := ⟨k - 1, by omega⟩
    have hb := kF_le hF1 hF hk8 l HS
    have hlen := HS.len
    refine ⟨N, k, by omega, ⟨H.len, fun t t0 t1 => ?_⟩, ?_⟩
    · rw [H.val t t0 (by rw [show (((kk + 1 : Nat) : Int)) = (kk : Int) + 1 by omega] at t1; exact t1), Sw_succ]
      unfold Qs
      refine sumN_congr F fun i hi => ?_
      by_cases hc : t - ((i : Int) + 1) < s
      · rw [if_pos (.inl hc)]
      · rw [Sw_out F kk (t - ((i : Int) + 1)) (.inr (by rw [Int.mul_comm]; omega))]
        simp
    · simp only [spec_diSums.l1]
      rw [if_neg (by omega)]
  | e + 1, s, k, N, h1, h2, H => by
    obtain ⟨k, rfl⟩ : ∃ m, k = m + 1 := ⟨k - 1, by omega⟩
    have hb := kF_le hF1 hF hk8 l HS
    have hlen := HS.len
    have hs : (s : Int) ≤ (kk : Int) * F := by omega
    obtain ⟨N1, k1, hk1, H1, eq1⟩ := ds_l2 hF1 hF hk8 l HS d s hs x6 (l.length : Int) F 0 k N (by omega) (by omega) H
    have H2 : Is F kk N1 ((s + 1 : Nat) : Int) 0 := ⟨H1.len, fun t t0 t1 => by
      rw [H1.val t t0 t1]
      unfold Qs
      refine sumN_congr F fun i hi => ?_
      by_cases hc : t - ((i : Int) + 1) < s ∨ (t - ((i : Int) + 1) = s ∧ i < F)
      · rw [if_pos hc, if_pos (.inl (by omega))]
      · rw [if_neg hc, if_neg (by rintro (e | e); exact hc (by by_cases g : t - ((i : Int) + 1) = s; exact .inr ⟨g, hi⟩; exact .inl (by omega)); omega)]⟩
    obtain ⟨N', k', hk', H', eq⟩ := ds_l1 d x6 e (s + 1) k1 N1 (by omega) (by omega) H2
    refine ⟨N', k', by omega, H', ?_⟩
    simp only [spec_diSums.l1]
    rw [if_pos (by omega), if_pos (by omega), if_pos (by omega), HS.val (s : Int) (by omega) hs]
    rw [show ((0 : Nat) : Int) + 1 = 1 from rfl] at eq1
    rw [eq1, eq]
end

theorem ds_l0 {d F : Nat} (hd : d ≤ 8) (hF1 : 1 ≤ F) (hF : F ≤ 12) : ∀ (e kk k : Nat) (l : List Int), kk + e = d → 2500 * e + 20 < k → Sd F kk l →
    ∃ r, Sd F d r ∧ spec_diSums.l0 k (d : Int) (F : Int) l (kk : Int) = some r
  | 0, kk, k, l, h1, h2, H => by
    obtain ⟨k, rfl⟩ : ∃ m, k = m + 1 := ⟨k - 1, by omega⟩
    obtain rfl : kk = d := by omega
    refine ⟨l, H, ?_⟩
    simp only [spec_diSums.l0]
    rw [if_neg (by omega)]
  | e + 1, kk, k, l, h1, h2, H => by
    obtain ⟨k, rfl⟩ : ∃ m, k = m + 1 := ⟨k - 1, by omega⟩
    have hb := kF_le hF1 hF (by omega : kk ≤ 7) l H
    have hlen := H.len
    have e1 : wrap64 ((l.length : Int) + (F : Int)) = (((kk + 1) * F + 1 : Nat) : Int) := by rw [w64 _ (by omega) (by omega)]; omega
    have H0 : Is F kk (List.replicate ((kk + 1) * F + 1) 0) ((0 : Nat) : Int) 0 := by
      refine ⟨List.length_replicate, fun t t0 t1 => ?_⟩
      rw [rd_zeros]
      unfold Qs
      rw [sumN_congr (g := fun _ => 0) F, sumN_zero]
      intro i hi
      show (if _ then _ else _) = _
      split
      · rename_i hc
        exact Sw_out F kk _ (.inl (by omega))
      · rfl
    obtain ⟨N', k', hk', H', eq⟩ := ds_l1 hF1 hF (by omega : kk ≤ 7) l H d (kk : Int) (kk * F + 1) 0 k _ (by omega) (by omega) H0
    obtain ⟨r, hr, eqr⟩ := ds_l0 hd hF1 hF e (kk + 1) k' N' (by omega) (by omega) H'
    refine ⟨r, hr, ?_⟩
    simp only [spec_diSums.l0, e1, Int.toNat_natCast]
    rw [if_pos (by omega), if_pos (by omega), if_pos (by omega)]
    rw [show ((0 : Nat) : Int) = 0 from rfl] at eq
    rw [eq, w64_succ (by omega), eqr]

theorem diSums_eq {d F : Nat} (hd : d ≤ 8) (hF1 : 1 ≤ F) (hF : F ≤ 12) (k : Nat) (hk : 30000 ≤ k) : ∃ r, Sd F d r ∧ spec_diSums.f k (d : Int) (F : Int) = some r := by
  unfold spec_diSums.f
  refine ds_l0 hd hF1 hF d 0 k [1] (by omega) (by omega) ⟨by simp, fun t t0 t1 => ?_⟩
  have : t = 0 := by simp at t1; omega
  subst this
  rfl

/-- both sides' table -/
theorem tables_eq {d F : Nat} (hd1 : 1 ≤ d) (hd : d ≤ 8) (hF1 : 1 ≤ F) (hF : F ≤ 12) (k : Nat) (hk : 30000 ≤ k) : ∃ r, Sd F d r ∧ impl_ways.f k (d : Int) (F : Int) (d : Int) = some r ∧ spec_diSums.f k (d : Int) (F : Int) = some r := by
  obtain ⟨r, r1, r2, r3⟩ := ways_eq hd1 hd hF1 hF k (by omega)
  obtain ⟨q, hq, q3⟩ := diSums_eq hd hF1 hF k hk
  have hdFn : ((d * F + 1 : Nat) : Int) = (d : Int) * F + 1 := by rw [Int.natCast_add, Int.natCast_mul]; rfl
  have : q = r := by
    refine List.ext_getElem (by rw [hq.len, r1]) fun i h1 h2 => ?_
    have a := hq.val (i : Int) (by omega) (by omega)
    have b := r2 (i : Int) (by omega) (by omega)
    rw [← b] at a
    simpa [rd, List.getD, List.getElem?_eq_getElem h1, List.getElem?_eq_getElem h2] using a
  subst this
  exact ⟨q, hq, r3, q3⟩

theorem within_some (a b c : Int) : impl_within.f a b c = some (decide (b ≤ a ∧ a ≤ c)) := by
  unfold impl_within.f
  by_cases h : a ≥ b
  · rw [if_pos h]; have h' : b ≤ a := h; simp [h']
  · rw [if_neg h]; have h' : ¬ b ≤ a := h; simp [h']

theorem l1In_some (a b c : Int) : spec_l1In.f a b c = some (decide (b ≤ a ∧ a ≤ c)) := by
  unfold spec_l1In.f
  by_cases h : a ≥ b
  · rw [if_pos h]; have h' : b ≤ a := h; simp [h']
  · rw [if_neg h]; have h' : ¬ b ≤ a := h; simp [h']

def okD (a b : Int) : Bool := decide (1 ≤ a ∧ a ≤ 8) && decide (1 ≤ b ∧ b ≤ 12)

theorem areDice_eq (a b : Int) : impl_areDice.f a b = some (okD a b) := by
  unfold impl_areDice.f okD
  simp only [within_some, Option.bind_some]
  cases decide (1 ≤ a ∧ a ≤ 8) <;> rfl

theorem diAsked_eq (a b : Int) : spec_diAsked.f a b = some (okD a b) := by
  unfold spec_diAsked.f okD
  simp only [l1In_some, Option.bind_some]
  cases decide (1 ≤ a ∧ a ≤ 8) <;> rfl

theorem okD_nat {a b : Int} (h : okD a b = true) : ∃ d F : Nat, a = d ∧ b = F ∧ 1 ≤ d ∧ d ≤ 8 ∧ 1 ≤ F ∧ F ≤ 12 := by
  unfold okD at h
  simp only [Bool.and_eq_true, decide_eq_true_eq] at h
  exact ⟨a.toNat, b.toNat, by omega, by omega, by omega, by omega, by omega, by omega⟩

end Go.Proofs.Yteiceakgiilbgaa.Pr
