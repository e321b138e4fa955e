/- Proved here: what impl.ways answers: how many throws have each sum; the conditions are the dice's own bounds. -/
import Derived.Test.YteiceakgiilbgaaPW1
import Derived.Test.YteiceakgiilbgaaFImplWays
namespace Go.Proofs.Yteiceakgiilbgaa.Pr
open Go.RowKit Go.Proofs.YteiceakgiilbgaaW.PrintWords Go.Proofs.YteiceakgiilbgaaW.PrintLast Go.Proofs.YteiceakgiilbgaaW.PrintMore
set_option linter.unusedVariables false
set_option linter.unusedSimpArgs false
set_option linter.unusedSectionVars false

theorem w64 (x : Int) (h1 : -9223372036854775808 ≤ x) (h2 : x ≤ 9223372036854775807) : wrap64 x = x := by unfold wrap64; omega

theorem w64_succ {i : Nat} (h : i < 9223372036854775807) : wrap64 ((i : Int) + 1) = ((i + 1 : Nat) : Int) := by
  rw [w64 _ (by omega) (by omega)]
  omega

theorem rdI_set {xs : List Int} {i : Nat} {v j : Int} (hj : 0 ≤ j) (hi : i < xs.length) : rd (xs.set i v) j = if j = (i : Int) then v else rd xs j := by
  obtain ⟨m, rfl⟩ := Int.eq_ofNat_of_zero_le hj
  simp only [rd, List.getD, Int.toNat_natCast]
  by_cases h : m = i
  · subst h
    rw [if_pos rfl, List.getElem?_set_self hi]
    rfl
  · rw [if_neg (by omega), List.getElem?_set_ne (by omega)]

theorem rdR_set {xs : List (List Int)} {i : Nat} {v : List Int} {j : Int} (hj : 0 ≤ j) (hi : i < xs.length) : rd_L1 (xs.set i v) j = if j = (i : Int) then v else rd_L1 xs j := by
  obtain ⟨m, rfl⟩ := Int.eq_ofNat_of_zero_le hj
  simp only [rd_L1, List.getD, Int.toNat_natCast]
  by_cases h : m = i
  · subst h
    rw [if_pos rfl, List.getElem?_set_self hi]
    rfl
  · rw [if_neg (by omega), List.getElem?_set_ne (by omega)]

theorem rd_zeros (n : Nat) (j : Int) : rd (List.replicate n 0) j = 0 := by
  simp only [rd, List.getD, List.getElem?_replicate]
  split <;> rfl

/-! #### small facts of choices -/
theorem ch_step : ∀ n i : Fin 9, i.val < n.val → wrap64 (Int.tdiv (wrap64 (ch n.val i.val * wrap64 ((n.val : Int) - (i.val : Int)))) (wrap64 ((i.val : Int) + 1))) = ch n.val (i.val + 1) := by decide +kernel

theorem ch_tri : ∀ d n m : Fin 9, n.val ≤ m.val → m.val ≤ d.val → ch d.val n.val * ch (d.val - n.val) (m.val - n.val) = ch d.val m.val * ch m.val (m.val - n.val) := by decide +kernel

theorem ch_le : ∀ n k : Fin 9, ch n.val k.val ≤ 70 := by decide +kernel

theorem ch_self : ∀ n : Fin 9, ch n.val n.val = 1 := by decide +kernel

theorem choose_l0 (n c : Nat) (hn : n ≤ 8) (hc : c ≤ n) : ∀ (e i k : Nat), i + e = c → e < k → impl_choose.l0 k (n : Int) (ch n i) (c : Int) (i : Int) = some (ch n c)
  | 0, i, k, h1, h2 => by
    obtain ⟨k, rfl⟩ : ∃ m, k = m + 1 := ⟨k - 1, by omega⟩
    simp only [impl_choose.l0]
    rw [if_neg (by omega), show i = c by omega]
  | e + 1, i, k, h1, h2 => by
    obtain ⟨k, rfl⟩ : ∃ m, k = m + 1 := ⟨k - 1, by omega⟩
    simp only [impl_choose.l0]
    rw [if_pos (by omega), if_neg (by rw [w64 _ (by omega) (by omega)]; omega), ch_step ⟨n, by omega⟩ ⟨i, by omega⟩ (by show i < n; omega), w64_succ (by omega)]
    exact choose_l0 n c hn hc e (i + 1) k (by omega) (by omega)

theorem choose_eq (n c : Nat) (hn : n ≤ 8) (hc : c ≤ n) (k : Nat) (hk : c < k) : impl_choose.f k (n : Int) (c : Int) = some (ch n c) := by
  unfold impl_choose.f
  have := choose_l0 n c hn hc c 0 k (by omega) hk
  rw [ch_zero] at this
  exact this

/-! #### one face more -/
section
variable (d F j : Nat)

/-- what n dice with greater faces give to m dice with sum t, when the face F - j is added -/
def Gw (n m : Nat) (t : Int) : Int := if n ≤ m then ch d n * ch (d - n) (m - n) * Dw F j n (t - ((F : Int) - j) * ((m - n : Nat) : Int)) else 0

def Cw (n : Nat) (s0 : Int) (c0 : Nat) (m : Nat) (t : Int) : Prop := n ≤ m ∧ (t - ((F : Int) - j) * ((m - n : Nat) : Int) < s0 ∨ (t - ((F : Int) - j) * ((m - n : Nat) : Int) = s0 ∧ m - n < c0))

instance (n : Nat) (s0 : Int) (c0 : Nat) (m : Nat) (t : Int) : Decidable (Cw F j n s0 c0 m t) := by unfold Cw; exact inferInstance

def Pw (n : Nat) (s0 : Int) (c0 : Nat) (m : Nat) (t : Int) : Int := sumN n (fun i => Gw d F j i m t) + (if Cw F j n s0 c0 m t then Gw d F j n m t else 0)

structure Iw (X : List (List Int)) (n : Nat) (s0 : Int) (c0 : Nat) : Prop where
  len : X.length = d + 1
  row : ∀ m : Nat, m ≤ d → (rd_L1 X (m : Int)).length = d * F + 1
  val : ∀ m : Nat, m ≤ d → ∀ t : Int, 0 ≤ t → t ≤ (d : Int) * F → rd (rd_L1 X (m : Int)) t = Pw d F j n s0 c0 m t

structure Tw (T : List (List Int)) (j : Nat) : Prop where
  len : T.length = d + 1
  row : ∀ m : Nat, m ≤ d → (rd_L1 T (m : Int)).length = d * F + 1
  val : ∀ m : Nat, m ≤ d → ∀ t : Int, 0 ≤ t → t ≤ (d : Int) * F → rd (rd_L1 T (m : Int)) t = ch d m * Dw F j m t
end

theorem pow12 {n : Nat} (h : n ≤ 8) : (12 : Int) ^ n ≤ 429981696 := by
  have key : ∀ i : Fin 9, (12 : Int) ^ i.val ≤ 429981696 := by decide +kernel
  exact key ⟨n, by omega⟩

theorem Gw_nonneg (d F j n m : Nat) (t : Int) : 0 ≤ Gw d F j n m t := by
  unfold Gw
  split
  · exact Int.mul_nonneg (Int.mul_nonneg (ch_nonneg _ _) (ch_nonneg _ _)) (Dw_nonneg _ _ _ _)
  · exact Int.le_refl 0

theorem Gw_le {d F j n m : Nat} (hd : d ≤ 8) (hj : j ≤ 12) (hm : m ≤ d) (t : Int) : Gw d F j n m t ≤ 2200000000000 := by
  unfold Gw
  split
  · have h1 := ch_le ⟨d, by omega⟩ ⟨n, by omega⟩
    have h2 := ch_le ⟨d - n, by omega⟩ ⟨m - n, by omega⟩
    have h3 := Dw_le F j hj n (t - ((F : Int) - j) * ((m - n : Nat) : Int))
    have h4 := pow12 (n := n) (by omega)
    have h5 := Dw_nonneg F j n (t - ((F : Int) - j) * ((m - n : Nat) : Int))
    have h6 : ch d n * ch (d - n) (m - n) ≤ 70 * 70 := Int.mul_le_mul h1 h2 (ch_nonneg _ _) (by decide)
    have h7 := Int.mul_le_mul h6 (Int.le_trans h3 h4) h5 (by decide : (0 : Int) ≤ 70 * 70)
    omega
  · decide

theorem Pw_bound {d F j n c0 m : Nat} {s0 t : Int} (hd : d ≤ 8) (hj : j ≤ 12) (hm : m ≤ d) (hn : n ≤ d + 1) : 0 ≤ Pw d F j n s0 c0 m t ∧ Pw d F j n s0 c0 m t ≤ 30000000000000 := by
  have h1 := sumN_nonneg (f := fun i => Gw d F j i m t) n (fun i _ => Gw_nonneg d F j i m t)
  have h2 := sumN_le (f := fun i => Gw d F j i m t) n (fun i _ => Gw_le (F := F) (n := i) hd hj hm t)
  have h3 : (n : Int) * 2200000000000 ≤ 9 * 2200000000000 := Int.mul_le_mul_of_nonneg_right (by omega) (by decide)
  have h4 := Gw_nonneg d F j n m t
  have h5 := Gw_le (F := F) (n := n) hd hj hm t
  unfold Pw
  split <;> omega

/-- the whole of the sum -/
theorem Gw_all {d F j m : Nat} (hd : d ≤ 8) (hm : m ≤ d) (t : Int) : ∀ e, sumN (m + 1 + e) (fun i => Gw d F j i m t) = ch d m * Dw F (j + 1) m t
  | 0 => by
    rw [Dw_succ, ← sumN_mul]
    refine Eq.trans (sumN_congr (m + 1) (g := fun i => ch d m * (ch m (m - i) * Dw F j (m - (m - i)) (t - ((F : Int) - j) * ((m - i : Nat) : Int)))) fun i hi => ?_) (sumN_flip (fun c => ch d m * (ch m c * Dw F j (m - c) (t - ((F : Int) - j) * (c : Int)))) m)
    have h : ch d i * ch (d - i) (m - i) = ch d m * ch m (m - i) := ch_tri ⟨d, by omega⟩ ⟨i, by omega⟩ ⟨m, by omega⟩ (by show i ≤ m; omega) hm
    unfold Gw
    rw [if_pos (by omega), h, Int.mul_assoc, show m - (m - i) = i by omega]
  | e + 1 => by
    show sumN (m + 1 + e) _ + Gw d F j (m + 1 + e) m t = _
    rw [Gw_all hd hm t e]
    unfold Gw
    rw [if_neg (by omega)]
    omega

theorem Gw_at {d F j : Nat} (n c : Nat) (s : Int) : Gw d F j n (n + c) (s + ((F : Int) - j) * (c : Int)) = ch d n * Dw F j n s * ch (d - n) c := by
  unfold Gw
  rw [if_pos (by omega), show n + c - n = c by omega, show s + ((F : Int) - j) * (c : Int) - ((F : Int) - j) * (c : Int) = s by omega, Int.mul_right_comm]

/-- a place more is told -/
theorem Pw_same {d F j n c0 c1 m : Nat} {s0 s1 t : Int} (h : Gw d F j n m t ≠ 0 → (Cw F j n s0 c0 m t ↔ Cw F j n s1 c1 m t)) : Pw d F j n s0 c0 m t = Pw d F j n s1 c1 m t := by
  unfold Pw
  by_cases g : Gw d F j n m t = 0
  · rw [g]; simp
  · have := h g
    by_cases c : Cw F j n s0 c0 m t
    · rw [if_pos c, if_pos (this.mp c)]
    · rw [if_neg c, if_neg (fun e => c (this.mpr e))]

theorem Iw.same {d F j n c0 c1 : Nat} {s0 s1 : Int} {X : List (List Int)} (H : Iw d F j X n s0 c0) (h : ∀ m : Nat, m ≤ d → ∀ t : Int, 0 ≤ t → t ≤ (d : Int) * F → Gw d F j n m t ≠ 0 → (Cw F j n s0 c0 m t ↔ Cw F j n s1 c1 m t)) : Iw d F j X n s1 c1 :=
  ⟨H.len, H.row, fun m hm t t0 t1 => by rw [H.val m hm t t0 t1, Pw_same (h m hm t t0 t1)]⟩

/-- the row is done -/
theorem Iw.next {d F j n : Nat} {X : List (List Int)} (hj : (j : Int) ≤ F) (H : Iw d F j X n ((d : Int) * F + 1) 0) : Iw d F j X (n + 1) 0 0 := by
  refine ⟨H.len, H.row, fun m hm t t0 t1 => ?_⟩
  rw [H.val m hm t t0 t1]
  unfold Pw
  show sumN n _ + _ = sumN n _ + Gw d F j n m t + _
  have e1 : (if Cw F j n ((d : Int) * F + 1) 0 m t then Gw d F j n m t else 0) = Gw d F j n m t := by
    by_cases h : n ≤ m
    · rw [if_pos]
      have : 0 ≤ ((F : Int) - j) * ((m - n : Nat) : Int) := Int.mul_nonneg (by omega) (by omega)
      exact ⟨h, .inl (by omega)⟩
    · rw [if_neg (fun e => h e.1)]
      unfold Gw
      rw [if_neg h]
  have e2 : (if Cw F j (n + 1) 0 0 m t then Gw d F j (n + 1) m t else 0) = 0 := by
    split
    · rename_i h
      obtain ⟨h1, h2⟩ := h
      unfold Gw
      rw [if_pos h1, Dw_out F j hj _ _ (.inl (by rcases h2 with h2 | h2; exact h2; omega)), Int.mul_zero]
    · rfl
  rw [e1, e2]
  omega

section
variable {d F j : Nat} (hd1 : 1 ≤ d) (hd : d ≤ 8) (hF1 : 1 ≤ F) (hF : F ≤ 12) (hj : j < F) (T : List (List Int)) (HT : Tw d F T j)
include hd1 hd hF1 hF hj HT

theorem dF_le : (d : Int) * F ≤ 96 ∧ 0 ≤ (d : Int) * F := by
  have h1 : (d : Int) * F ≤ 8 * 12 := Int.mul_le_mul (by omega) (by omega) (by omega) (by decide)
  have h2 : 0 ≤ (d : Int) * F := Int.mul_nonneg (by omega) (by omega)
  omega

theorem Iw_step {n c : Nat} (hnc : n + c ≤ d) {s : Int} (s0 : 0 ≤ s) (hsF : s ≤ (F : Int) * n) {X : List (List Int)} (H : Iw d F j X n s c) :
    Iw d F j (X.set (n + c) ((rd_L1 X ((n + c : Nat) : Int)).set (s + ((F : Int) - j) * (c : Int)).toNat (Pw d F j n s (c + 1) (n + c) (s + ((F : Int) - j) * (c : Int))))) n s (c + 1) := by
  have hlen := H.len
  have hrow := H.row (n + c) hnc
  have hdFn : ((d * F + 1 : Nat) : Int) = (d : Int) * F + 1 := by rw [Int.natCast_add, Int.natCast_mul]; rfl
  have hac : ((F : Int) - j) * (c : Int) ≤ (F : Int) * c := Int.mul_le_mul_of_nonneg_right (by omega) (by omega)
  have hac0 : 0 ≤ ((F : Int) - j) * (c : Int) := Int.mul_nonneg (by omega) (by omega)
  have hle : (F : Int) * n + (F : Int) * c ≤ (d : Int) * F := by
    rw [← Int.mul_add, Int.mul_comm (d : Int) F]
    exact Int.mul_le_mul_of_nonneg_left (by omega) (by omega)
  generalize hA : ((F : Int) - j) * (c : Int) = A at *
  refine ⟨by rw [List.length_set]; exact hlen, fun m hm => ?_, fun m hm t t0 t1 => ?_⟩
  · rw [rdR_set (by omega) (by omega)]
    split
    · rw [List.length_set]; exact hrow
    · exact H.row m hm
  · rw [rdR_set (by omega) (by omega)]
    by_cases em : m = n + c
    · subst em
      rw [if_pos rfl, rdI_set t0 (by rw [hrow]; omega)]
      by_cases et : t = s + A
      · rw [if_pos (by omega), et]
      · rw [if_neg (by omega), H.val (n + c) hm t t0 t1]
        refine Pw_same fun _ => ?_
        unfold Cw
        rw [show n + c - n = c by omega, hA]
        constructor
        · rintro ⟨a, b | ⟨b, b2⟩⟩
          · exact ⟨a, .inl b⟩
          · omega
        · rintro ⟨a, b | ⟨b, b2⟩⟩
          · exact ⟨a, .inl b⟩
          · omega
    · rw [if_neg (by omega), H.val m hm t t0 t1]
      refine Pw_same fun _ => ?_
      unfold Cw
      constructor
      · rintro ⟨a, b | ⟨b, b2⟩⟩
        · exact ⟨a, .inl b⟩
        · exact ⟨a, .inr ⟨b, by omega⟩⟩
      · rintro ⟨a, b | ⟨b, b2⟩⟩
        · exact ⟨a, .inl b⟩
        · exact ⟨a, .inr ⟨b, by omega⟩⟩

theorem l3_step {n c : Nat} (hnc : n + c ≤ d) {s : Int} (s0 : 0 ≤ s) (hsF : s ≤ (F : Int) * n) {X : List (List Int)} (H : Iw d F j X n s c) (k : Nat) (hk : 20 < k) (x62 x63 x69 x70 : Int) (x68 : List Int) :
    waysRound.l3 (k + 1) (d : Int) (d : Int) ((F : Int) - j) X (n : Int) s (ch d n * Dw F j n s) (c : Int) T x62 x63 x68 x69 x70 = waysRound.l3 k (d : Int) (d : Int) ((F : Int) - j) (X.set (n + c) ((rd_L1 X ((n + c : Nat) : Int)).set (s + ((F : Int) - j) * (c : Int)).toNat (Pw d F j n s (c + 1) (n + c) (s + ((F : Int) - j) * (c : Int))))) (n : Int) s (ch d n * Dw F j n s) ((c + 1 : Nat) : Int) T x62 x63 x68 x69 x70 := by
  have e1 : wrap64 ((n : Int) + (c : Int)) = ((n + c : Nat) : Int) := by rw [w64 _ (by omega) (by omega)]; omega
  have e2 : mx 0 (mn (c : Int) (wrap64 ((d : Int) - (n : Int)))) = (c : Int) := by
    rw [w64 _ (by omega) (by omega)]
    unfold mx mn
    split <;> split <;> omega
  have e4 : wrap64 ((d : Int) - (n : Int)) = ((d - n : Nat) : Int) := by rw [w64 _ (by omega) (by omega)]; omega
  have hdF := dF_le hd1 hd hF1 hF hj T HT
  have hlen := H.len
  have hrow := H.row (n + c) hnc
  have hdFn : ((d * F + 1 : Nat) : Int) = (d : Int) * F + 1 := by rw [Int.natCast_add, Int.natCast_mul]; rfl
  have hac : ((F : Int) - j) * (c : Int) ≤ (F : Int) * c := Int.mul_le_mul_of_nonneg_right (by omega) (by omega)
  have hac0 : 0 ≤ ((F : Int) - j) * (c : Int) := Int.mul_nonneg (by omega) (by omega)
  have hle : (F : Int) * n + (F : Int) * c ≤ (d : Int) * F := by
    rw [← Int.mul_add, Int.mul_comm (d : Int) F]
    exact Int.mul_le_mul_of_nonneg_left (by omega) (by omega)
  have e3 : wrap64 (s + wrap64 (((F : Int) - j) * (c : Int))) = s + ((F : Int) - j) * (c : Int) := by
    rw [w64 (((F : Int) - j) * (c : Int)) (by omega) (by omega), w64 _ (by omega) (by omega)]
  have hG := Gw_at (d := d) (F := F) (j := j) n c s
  have hG0 := Gw_nonneg d F j n (n + c) (s + ((F : Int) - j) * (c : Int))
  have hG1 := Gw_le (F := F) (n := n) hd (by omega : j ≤ 12) hnc (s + ((F : Int) - j) * (c : Int))
  have hP := Pw_bound (F := F) (j := j) (n := n) (c0 := c) (m := n + c) (s0 := s) (t := s + ((F : Int) - j) * (c : Int)) hd (by omega) hnc (by omega)
  have hval := H.val (n + c) hnc (s + ((F : Int) - j) * (c : Int)) (by omega) (by omega)
  have hPn : Pw d F j n s (c + 1) (n + c) (s + ((F : Int) - j) * (c : Int)) = Pw d F j n s c (n + c) (s + ((F : Int) - j) * (c : Int)) + Gw d F j n (n + c) (s + ((F : Int) - j) * (c : Int)) := by
    unfold Pw
    rw [if_pos, if_neg]
    · omega
    · rintro ⟨_, h | ⟨_, h⟩⟩
      · rw [show n + c - n = c by omega] at h; omega
      · omega
    · exact ⟨by omega, .inr ⟨by rw [show n + c - n = c by omega]; omega, by omega⟩⟩
  simp only [waysRound.l3, e1, e2, e3]
  rw [if_pos (by omega), if_pos (by omega), if_pos (by omega), if_pos (by omega), if_pos (by rw [hrow]; omega), e4, choose_eq (d - n) c (by omega) (by omega) k (by omega)]
  simp only [Option.bind_some]
  rw [← hG, w64 (Gw _ _ _ _ _ _) (by omega) (by omega), hval, w64 (Pw _ _ _ _ _ _ _ _ + _) (by omega) (by omega), ← hPn, Int.toNat_natCast, w64_succ (by omega)]

theorem l3_eq (n : Nat) (hn : n ≤ d) (s : Int) (s0 : 0 ≤ s) (hs : Dw F j n s ≠ 0) (x62 x63 x69 x70 : Int) (x68 : List Int) : ∀ (e c k : Nat) (X : List (List Int)), c + e = d - n + 1 → 30 + e < k → Iw d F j X n s c →
    ∃ X' k', k ≤ k' + e + 1 ∧ Iw d F j X' n s (d - n + 1) ∧ waysRound.l3 k (d : Int) (d : Int) ((F : Int) - j) X (n : Int) s (ch d n * Dw F j n s) (c : Int) T x62 x63 x68 x69 x70 = waysRound.l2 k' (d : Int) (d : Int) ((F : Int) - j) X' (n : Int) T x62 x63 x68 x69 (wrap64 (x70 + 1))
  | 0, c, k, X, h1, h2, H => by
    obtain ⟨k, rfl⟩ : ∃ m, k = m + 1 := ⟨k - 1, by omega⟩
    refine ⟨X, k, by omega, by rw [show d - n + 1 = c by omega]; exact H, ?_⟩
    simp only [waysRound.l3]
    rw [if_neg (by rw [w64 _ (by omega) (by omega)]; omega)]
  | e + 1, c, k, X, h1, h2, H => by
    obtain ⟨k, rfl⟩ : ∃ m, k = m + 1 := ⟨k - 1, by omega⟩
    have hsF : s ≤ (F : Int) * n := by
      by_cases h : (F : Int) * n < s
      · exact absurd (Dw_out F j (by omega) n s (.inr h)) hs
      · omega
    obtain ⟨X', k', hk', H', eq⟩ := l3_eq n hn s s0 hs x62 x63 x69 x70 x68 e (c + 1) k _ (by omega) (by omega) (Iw_step hd1 hd hF1 hF hj T HT (by omega) s0 hsF H)
    refine ⟨X', k', by omega, H', ?_⟩
    rw [l3_step hd1 hd hF1 hF hj T HT (by omega) s0 hsF H k (by omega)]
    exact eq

end

end Go.Proofs.Yteiceakgiilbgaa.Pr
