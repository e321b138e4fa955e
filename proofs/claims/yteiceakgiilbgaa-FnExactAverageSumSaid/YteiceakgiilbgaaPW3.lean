/- Proved here: what impl.ways answers for all dice kept: how many throws have each sum; the conditions are the dice's own bounds. -/
import Derived.Test.YteiceakgiilbgaaPW2
namespace Go.Proofs.Yteiceakgiilbgaa.Pr
open Go.RowKit Go.Proofs.YteiceakgiilbgaaW.PrintWords Go.Proofs.YteiceakgiilbgaaW.PrintLast Go.Proofs.YteiceakgiilbgaaW.PrintMore
set_option linter.unusedVariables false
set_option linter.unusedSimpArgs false
set_option linter.unusedSectionVars false

theorem rdR_at {l : List (List Int)} {i : Nat} (h : i < l.length) : rd_L1 l (i : Int) = l[i] := by
  unfold rd_L1
  simp [List.getD, List.getElem?_eq_getElem h]

section
variable {d F j : Nat} (hd1 : 1 ≤ d) (hd : d ≤ 8) (hF1 : 1 ≤ F) (hF : F ≤ 12) (hj : j < F) (T : List (List Int)) (HT : Tw d F T j)
include hd1 hd hF1 hF hj HT

theorem Gw_zero {n m : Nat} {s t : Int} (hs : ch d n * Dw F j n s = 0) (hu : t - ((F : Int) - j) * ((m - n : Nat) : Int) = s) : Gw d F j n m t = 0 := by
  unfold Gw
  split
  · rw [hu, Int.mul_right_comm, hs, Int.zero_mul]
  · rfl

theorem l2_eq (n : Nat) (hn : n ≤ d) : ∀ (e s k : Nat) (X : List (List Int)), s + e = d * F + 1 → 100 + 12 * e < k → Iw d F j X n (s : Int) 0 →
    ∃ X' k', k ≤ k' + 12 * e + 1 ∧ Iw d F j X' (n + 1) 0 0 ∧ waysRound.l2 k (d : Int) (d : Int) ((F : Int) - j) X (n : Int) T (T.length : Int) (n : Int) (rd_L1 T (n : Int)) ((rd_L1 T (n : Int)).length : Int) (s : Int) = waysRound.l1 k' (d : Int) (d : Int) ((F : Int) - j) X' T (T.length : Int) ((n + 1 : Nat) : Int)
  | 0, s, k, X, h1, h2, H => by
    obtain ⟨k, rfl⟩ : ∃ m, k = m + 1 := ⟨k - 1, by omega⟩
    have hrow := HT.row n hn
    have hdFn : ((d * F + 1 : Nat) : Int) = (d : Int) * F + 1 := by rw [Int.natCast_add, Int.natCast_mul]; rfl
    have hs : (s : Int) = (d : Int) * F + 1 := by omega
    rw [hs] at H
    refine ⟨X, k, by omega, H.next (by omega), ?_⟩
    simp only [waysRound.l2]
    rw [if_neg (by rw [hrow]; omega), w64_succ (by omega)]
  | e + 1, s, k, X, h1, h2, H => by
    obtain ⟨k, rfl⟩ : ∃ m, k = m + 1 := ⟨k - 1, by omega⟩
    have hdF := dF_le hd1 hd hF1 hF hj T HT
    have hrow := HT.row n hn
    have hdFn : ((d * F + 1 : Nat) : Int) = (d : Int) * F + 1 := by rw [Int.natCast_add, Int.natCast_mul]; rfl
    have hs1 : (s : Int) ≤ (d : Int) * F := by omega
    have hv := HT.val n hn (s : Int) (by omega) hs1
    simp only [waysRound.l2]
    rw [if_pos (by rw [hrow]; omega), if_pos (by omega), if_pos (by rw [hrow]; omega), hv]
    by_cases h0 : ch d n * Dw F j n (s : Int) = 0
    · have H2 : Iw d F j X n ((s + 1 : Nat) : Int) 0 := H.same fun m hm t t0 t1 hG => by
        by_cases hu : t - ((F : Int) - j) * ((m - n : Nat) : Int) = (s : Int)
        · exact absurd (Gw_zero hd1 hd hF1 hF hj T HT h0 hu) hG
        · unfold Cw
          generalize t - ((F : Int) - j) * ((m - n : Nat) : Int) = u at *
          constructor
          · rintro ⟨a, b | ⟨b, b2⟩⟩
            · exact ⟨a, .inl (by omega)⟩
            · omega
          · rintro ⟨a, b | ⟨b, b2⟩⟩
            · exact ⟨a, .inl (by omega)⟩
            · omega
      obtain ⟨X', k', hk', H', eq⟩ := l2_eq n hn e (s + 1) k X (by omega) (by omega) H2
      refine ⟨X', k', by omega, H', ?_⟩
      rw [if_pos h0, w64_succ (by omega), eq]
    · have hs0 : Dw F j n (s : Int) ≠ 0 := fun e => h0 (by rw [e, Int.mul_zero])
      obtain ⟨X1, k1, hk1, H1, eq1⟩ := l3_eq hd1 hd hF1 hF hj T HT n hn (s : Int) (by omega) hs0 (T.length : Int) (n : Int) ((rd_L1 T (n : Int)).length : Int) (s : Int) (rd_L1 T (n : Int)) (d - n + 1) 0 k X (by omega) (by omega) H
      have H2 : Iw d F j X1 n ((s + 1 : Nat) : Int) 0 := H1.same fun m hm t t0 t1 hG => by
        unfold Cw
        generalize t - ((F : Int) - j) * ((m - n : Nat) : Int) = u at *
        constructor
        · rintro ⟨a, b | ⟨b, b2⟩⟩
          · exact ⟨a, .inl (by omega)⟩
          · exact ⟨a, .inl (by omega)⟩
        · rintro ⟨a, b | ⟨b, b2⟩⟩
          · by_cases hu : u = (s : Int)
            · exact ⟨a, .inr ⟨hu, by omega⟩⟩
            · exact ⟨a, .inl (by omega)⟩
          · omega
      obtain ⟨X', k', hk', H', eq⟩ := l2_eq n hn e (s + 1) k1 X1 (by omega) (by omega) H2
      refine ⟨X', k', by omega, H', ?_⟩
      rw [if_neg h0]
      rw [show ((0 : Nat) : Int) = 0 from rfl] at eq1
      rw [eq1, w64_succ (by omega), eq]

theorem l1_eq : ∀ (e n k : Nat) (X : List (List Int)), n + e = d + 1 → 1300 * e + 200 < k → Iw d F j X n 0 0 →
    ∃ X', Tw d F X' (j + 1) ∧ waysRound.l1 k (d : Int) (d : Int) ((F : Int) - j) X T (T.length : Int) (n : Int) = some X'
  | 0, n, k, X, h1, h2, H => by
    obtain ⟨k, rfl⟩ : ∃ m, k = m + 1 := ⟨k - 1, by omega⟩
    have hlen := HT.len
    refine ⟨X, ⟨H.len, H.row, fun m hm t t0 t1 => ?_⟩, ?_⟩
    · rw [H.val m hm t t0 t1]
      unfold Pw
      rw [if_neg (fun e => by have := e.1; omega), Int.add_zero]
      have := Gw_all (F := F) (j := j) hd hm t (d - m)
      rw [show m + 1 + (d - m) = n by omega] at this
      exact this
    · simp only [waysRound.l1]
      rw [if_neg (by omega)]
  | e + 1, n, k, X, h1, h2, H => by
    obtain ⟨k, rfl⟩ : ∃ m, k = m + 1 := ⟨k - 1, by omega⟩
    have hlen := HT.len
    have hdF := dF_le hd1 hd hF1 hF hj T HT
    have hdFn : ((d * F + 1 : Nat) : Int) = (d : Int) * F + 1 := by rw [Int.natCast_add, Int.natCast_mul]; rfl
    obtain ⟨X1, k1, hk1, H1, eq1⟩ := l2_eq hd1 hd hF1 hF hj T HT n (by omega) (d * F + 1) 0 k X (by omega) (by omega) H
    obtain ⟨X', H', eq⟩ := l1_eq e (n + 1) k1 X1 (by omega) (by omega) H1
    refine ⟨X', H', ?_⟩
    simp only [waysRound.l1]
    rw [if_pos (by omega), if_pos (by omega), if_pos (by omega)]
    rw [show ((0 : Nat) : Int) = 0 from rfl] at eq1
    rw [eq1, eq]

theorem l0_eq : ∀ (e i k : Nat) (X : List (List Int)), i + e = d + 1 → 13000 + e < k → X.length = d + 1 → (∀ m : Nat, m < i → rd_L1 X (m : Int) = List.replicate (d * F + 1) 0) →
    ∃ X', Tw d F X' (j + 1) ∧ waysRound.l0 k (d : Int) (F : Int) (d : Int) ((F : Int) - j) T X ((d + 1 : Nat) : Int) (i : Int) = some X'
  | 0, i, k, X, h1, h2, h3, h4 => by
    obtain ⟨k, rfl⟩ : ∃ m, k = m + 1 := ⟨k - 1, by omega⟩
    have HI : Iw d F j X 0 0 0 := by
      refine ⟨h3, fun m hm => by rw [h4 m (by omega), List.length_replicate], fun m hm t t0 t1 => ?_⟩
      rw [h4 m (by omega), rd_zeros]
      unfold Pw
      show 0 = 0 + _
      split
      · rename_i h
        obtain ⟨a, b⟩ := h
        unfold Gw
        rw [if_pos a, Dw_out F j (by omega) _ _ (.inl (by rcases b with b | b; exact b; omega)), Int.mul_zero]
        rfl
      · rfl
    have hk : 1300 * (d + 1) + 200 < k := by
      have : 1300 * (d + 1) ≤ 1300 * 9 := Nat.mul_le_mul_left _ (by omega)
      omega
    obtain ⟨X', H', eq⟩ := l1_eq hd1 hd hF1 hF hj T HT (d + 1) 0 k X (Nat.zero_add _) hk HI
    refine ⟨X', H', ?_⟩
    simp only [waysRound.l0]
    rw [if_neg (by omega)]
    exact eq
  | e + 1, i, k, X, h1, h2, h3, h4 => by
    obtain ⟨k, rfl⟩ : ∃ m, k = m + 1 := ⟨k - 1, by omega⟩
    have hdF := dF_le hd1 hd hF1 hF hj T HT
    have e1 : wrap64 (wrap64 ((d : Int) * F) + 1) = ((d * F + 1 : Nat) : Int) := by
      rw [w64 ((d : Int) * F) (by omega) (by omega), w64 _ (by omega) (by omega), Int.natCast_add, Int.natCast_mul]
      rfl
    have hdFn : ((d * F + 1 : Nat) : Int) = (d : Int) * F + 1 := by rw [Int.natCast_add, Int.natCast_mul]; rfl
    obtain ⟨X', H', eq⟩ := l0_eq e (i + 1) k (X.set i (List.replicate (d * F + 1) 0)) (by omega) (by omega) (by rw [List.length_set]; exact h3) (fun m hm => by
      rw [rdR_set (by omega) (by omega)]
      split
      · rfl
      · exact h4 m (by omega))
    refine ⟨X', H', ?_⟩
    simp only [waysRound.l0, e1, Int.toNat_natCast]
    rw [if_pos (by omega), if_pos (by omega), if_pos (by omega), if_pos (by omega), if_pos (by omega), w64_succ (by omega)]
    exact eq

theorem round_eq (k : Nat) (hk : 13100 ≤ k) : ∃ X', Tw d F X' (j + 1) ∧ waysRound.f k (d : Int) (F : Int) (d : Int) ((F : Int) - j) T = some X' := by
  have e1 : wrap64 ((d : Int) + 1) = ((d + 1 : Nat) : Int) := w64_succ (by omega)
  obtain ⟨X', H', eq⟩ := l0_eq hd1 hd hF1 hF hj T HT (d + 1) 0 k (List.replicate (d + 1) []) (by omega) (by omega) List.length_replicate (fun m hm => by omega)
  refine ⟨X', H', ?_⟩
  unfold waysRound.f
  rw [e1, Int.toNat_natCast, if_pos (by omega), if_pos (by omega)]
  simp only [Option.bind_some, List.length_replicate]
  exact eq
end

/-! #### all faces -/
section
variable {d F : Nat} (hd1 : 1 ≤ d) (hd : d ≤ 8) (hF1 : 1 ≤ F) (hF : F ≤ 12)
include hd1 hd hF1 hF

theorem ways_l1 : ∀ (e j k : Nat) (T : List (List Int)), j + e = F → 14000 + e < k → Tw d F T j →
    ∃ r : List Int, r.length = d * F + 1 ∧ (∀ t : Int, 0 ≤ t → t ≤ (d : Int) * F → rd r t = Sw F d t) ∧ impl_ways.l1 k (d : Int) (F : Int) (d : Int) T ((F : Int) - j) = some r
  | 0, j, k, T, h1, h2, HT => by
    obtain ⟨k, rfl⟩ : ∃ m, k = m + 1 := ⟨k - 1, by omega⟩
    have hlen := HT.len
    obtain rfl : j = F := by omega
    refine ⟨rd_L1 T (d : Int), HT.row d (Nat.le_refl _), fun t t0 t1 => ?_, ?_⟩
    · have h := ch_self ⟨d, by omega⟩
      have h : ch d d = 1 := h
      rw [HT.val d (Nat.le_refl _) t t0 t1, h, Int.one_mul, Dw_eq]
    · simp only [impl_ways.l1]
      rw [if_neg (by omega), if_pos (by omega), if_pos (by omega)]
  | e + 1, j, k, T, h1, h2, HT => by
    obtain ⟨k, rfl⟩ : ∃ m, k = m + 1 := ⟨k - 1, by omega⟩
    obtain ⟨X, HX, eq⟩ := round_eq hd1 hd hF1 hF (by omega : j < F) T HT k (by omega)
    obtain ⟨r, r1, r2, r3⟩ := ways_l1 e (j + 1) k X (by omega) (by omega) HX
    refine ⟨r, r1, r2, ?_⟩
    simp only [impl_ways.l1]
    rw [if_pos (by omega), eq]
    simp only [Option.bind_some]
    rw [w64 _ (by omega) (by omega), show (F : Int) - j - 1 = (F : Int) - ((j + 1 : Nat) : Int) by omega]
    exact r3

theorem ways_l0 : ∀ (e i k : Nat) (X : List (List Int)), i + e = d + 1 → 15000 + e < k → X.length = d + 1 → (∀ m : Nat, m < i → rd_L1 X (m : Int) = List.replicate (d * F + 1) 0) →
    ∃ r : List Int, r.length = d * F + 1 ∧ (∀ t : Int, 0 ≤ t → t ≤ (d : Int) * F → rd r t = Sw F d t) ∧ impl_ways.l0 k (d : Int) (F : Int) (d : Int) X ((d + 1 : Nat) : Int) (i : Int) = some r
  | 0, i, k, X, h1, h2, h3, h4 => by
    obtain ⟨k, rfl⟩ : ∃ m, k = m + 1 := ⟨k - 1, by omega⟩
    have hr0 : rd_L1 X 0 = List.replicate (d * F + 1) 0 := h4 0 (by omega)
    have HT : Tw d F (X.set 0 ((rd_L1 X 0).set 0 1)) 0 := by
      refine ⟨by rw [List.length_set]; exact h3, fun m hm => ?_, fun m hm t t0 t1 => ?_⟩
      · rw [rdR_set (by omega) (by omega)]
        split
        · rw [List.length_set, hr0, List.length_replicate]
        · rw [h4 m (by omega), List.length_replicate]
      · rw [rdR_set (by omega) (by omega)]
        split
        · rename_i hm0
          obtain rfl : m = 0 := by omega
          rw [rdI_set t0 (by rw [hr0, List.length_replicate]; omega), ch_zero, hr0, rd_zeros]
          unfold Dw
          by_cases h : t = 0
          · rw [if_pos (by omega), if_pos ⟨rfl, h⟩]; rfl
          · rw [if_neg (by omega), if_neg (fun e => h e.2)]; rfl
        · rename_i hm0
          rw [h4 m (by omega), rd_zeros]
          unfold Dw
          rw [if_neg (fun e => hm0 (by omega)), Int.mul_zero]
    obtain ⟨r, r1, r2, r3⟩ := ways_l1 hd1 hd hF1 hF F 0 k _ (by omega) (by omega) HT
    refine ⟨r, r1, r2, ?_⟩
    simp only [impl_ways.l0]
    rw [if_neg (by omega), if_pos (by omega), if_pos (by rw [hr0, List.length_replicate]; omega)]
    rw [show (F : Int) - ((0 : Nat) : Int) = (F : Int) by omega] at r3
    exact r3
  | e + 1, i, k, X, h1, h2, h3, h4 => by
    obtain ⟨k, rfl⟩ : ∃ m, k = m + 1 := ⟨k - 1, by omega⟩
    have hdF1 : (d : Int) * F ≤ 8 * 12 := Int.mul_le_mul (by omega) (by omega) (by omega) (by decide)
    have hdF0 : 0 ≤ (d : Int) * F := Int.mul_nonneg (by omega) (by omega)
    have e1 : wrap64 (wrap64 ((d : Int) * F) + 1) = ((d * F + 1 : Nat) : Int) := by
      rw [w64 ((d : Int) * F) (by omega) (by omega), w64 _ (by omega) (by omega), Int.natCast_add, Int.natCast_mul]
      rfl
    have hdFn : ((d * F + 1 : Nat) : Int) = (d : Int) * F + 1 := by rw [Int.natCast_add, Int.natCast_mul]; rfl
    obtain ⟨r, r1, r2, r3⟩ := ways_l0 e (i + 1) k (X.set i (List.replicate (d * F + 1) 0)) (by omega) (by omega) (by rw [List.length_set]; exact h3) (fun m hm => by
      rw [rdR_set (by omega) (by omega)]
      split
      · rfl
      · exact h4 m (by omega))
    refine ⟨r, r1, r2, ?_⟩
    simp only [impl_ways.l0, e1, Int.toNat_natCast]
    rw [if_pos (by omega), if_pos (by omega), if_pos (by omega), if_pos (by omega), if_pos (by omega), w64_succ (by omega)]
    exact r3

theorem ways_eq (k : Nat) (hk : 16000 ≤ k) : ∃ r : List Int, r.length = d * F + 1 ∧ (∀ t : Int, 0 ≤ t → t ≤ (d : Int) * F → rd r t = Sw F d t) ∧ impl_ways.f k (d : Int) (F : Int) (d : Int) = some r := by
  have e1 : wrap64 ((d : Int) + 1) = ((d + 1 : Nat) : Int) := w64_succ (by omega)
  obtain ⟨r, r1, r2, r3⟩ := ways_l0 hd1 hd hF1 hF (d + 1) 0 k (List.replicate (d + 1) []) (by omega) (by omega) List.length_replicate (fun m hm => by omega)
  refine ⟨r, r1, r2, ?_⟩
  unfold impl_ways.f
  rw [e1, Int.toNat_natCast, if_pos (by omega), if_pos (by omega)]
  simp only [Option.bind_some, List.length_replicate]
  exact r3
end

end Go.Proofs.Yteiceakgiilbgaa.Pr
