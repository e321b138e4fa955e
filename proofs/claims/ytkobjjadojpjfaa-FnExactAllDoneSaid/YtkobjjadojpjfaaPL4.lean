/- Proved here: the places after a number of throws, as the program and as the reference count them; the conditions are a board's own bounds. -/
import Derived.Test.YtkobjjadojpjfaaPL3
import Derived.Test.YtkobjjadojpjfaaFImplBoardNext
import Derived.Test.YtkobjjadojpjfaaFImplBoardPlaces
import Derived.Test.YtkobjjadojpjfaaFGD
import Derived.Test.YtkobjjadojpjfaaFSpecChPlaces
namespace Go.Proofs.Ytkobjjadojpjfaa.Pr
open Go.RowKit Go.Proofs.YtkobjjadojpjfaaW.PrintWords Go.Proofs.YtkobjjadojpjfaaW.PrintLast Go.Proofs.YtkobjjadojpjfaaW.PrintMore
set_option linter.unusedVariables false
set_option linter.unusedSimpArgs false

/-! #### what is asked -/
theorem isThrown_eq (a b c : Int) (l : List S27) (n m : Int) (ss : List Int) (k : Nat) (hk : 100 ≤ k) : impl_isThrown.f k a b c l n m ss = some (good a b c l && ss.all (sqr a l) && decide (0 ≤ n ∧ n ≤ m)) := by
  unfold impl_isThrown.f
  rw [areSquares_eq a b c l ss k hk, within_some]
  simp only [Option.bind_some]
  cases h : (good a b c l && ss.all (sqr a l)) <;> simp

theorem chAsked_eq (a b c : Int) (l : List S27) (s n : Int) (k : Nat) (hk : 100 ≤ k) : spec_chAsked.f k a b c l s n = some (good a b c l && sqr a l s && decide (0 ≤ n ∧ n ≤ 20)) := by
  unfold spec_chAsked.f
  rw [sqAsked_eq a b c l s k hk, l1In_some]
  simp only [Option.bind_some]
  cases h : (good a b c l && sqr a l s) <;> simp

/-! #### sums -/
def tot : List Int → Int
  | [] => 0
  | x :: xs => x + tot xs

def NN (l : List Int) : Prop := ∀ x ∈ l, 0 ≤ x

theorem NN.tot : ∀ {l : List Int}, NN l → 0 ≤ Pr.tot l
  | [], _ => Int.le_refl 0
  | x :: xs, h => by
    have h1 := h x (List.mem_cons_self ..)
    have h2 := NN.tot (l := xs) (fun y hy => h y (List.mem_cons_of_mem _ hy))
    show 0 ≤ x + Pr.tot xs
    omega

theorem NN.le : ∀ {l : List Int}, NN l → ∀ x ∈ l, x ≤ Pr.tot l
  | [], _, x, hx => by simp at hx
  | y :: ys, h, x, hx => by
    have h1 := h y (List.mem_cons_self ..)
    have h2 : NN ys := fun z hz => h z (List.mem_cons_of_mem _ hz)
    show x ≤ y + Pr.tot ys
    rcases List.mem_cons.mp hx with rfl | hx
    · have := h2.tot; omega
    · have := h2.le x hx; omega

theorem tot_set : ∀ (l : List Int) (i : Nat) (x : Int) (h : i < l.length), tot (l.set i x) = tot l - l[i] + x
  | [], i, x, h => by simp at h
  | y :: ys, 0, x, h => by
    show x + tot ys = y + tot ys - y + x
    omega
  | y :: ys, i + 1, x, h => by
    have := tot_set ys i x (by simpa using h)
    show y + tot (ys.set i x) = y + tot ys - ys[i]'(by simpa using h) + x
    omega

theorem NN.set {l : List Int} (h : NN l) (i : Nat) {x : Int} (hx : 0 ≤ x) : NN (l.set i x) := fun y hy => by
  rcases List.mem_or_eq_of_mem_set hy with h1 | h1
  · exact h y h1
  · rw [h1]; exact hx

theorem tot_replicate (n : Nat) : tot (List.replicate n 0) = 0 := by
  induction n with
  | zero => rfl
  | succ n ih => rw [List.replicate_succ]; show 0 + tot (List.replicate n 0) = 0; omega

theorem NN.replicate (n : Nat) : NN (List.replicate n 0) := fun x hx => by rw [(List.mem_replicate.mp hx).2]; exact Int.le_refl 0

theorem tot_drop {l : List Int} {i : Nat} (h : i < l.length) : tot (l.drop i) = l[i] + tot (l.drop (i + 1)) := by
  rw [List.drop_eq_getElem_cons h]; rfl

theorem NN.drop {l : List Int} (h : NN l) (i : Nat) : NN (l.drop i) := fun x hx => h x (List.mem_of_mem_drop hx)

/-! #### one throw more -/
def addAll (x : Int) : List Int → List Int → List Int
  | out, [] => out
  | out, t :: ts => addAll x (out.set t.toNat (rd out t + x)) ts

def stepRow (a b c : Int) (l : List S27) (row : List Int) : Nat → Nat → List Int → List Int
  | _, 0, out => out
  | i, d + 1, out => stepRow a b c l row (i + 1) d (if rd row (i : Int) = 0 then out else addAll (rd row (i : Int)) out (lands a c l (i : Int) 1 b.toNat))

def nextR (a b c : Int) (l : List S27) (row : List Int) : List Int := stepRow a b c l row 0 (a + 1).toNat (List.replicate (a + 1).toNat 0)

def startR (a s : Int) : List Int := (List.replicate (a + 1).toNat 0).set s.toNat 1

def placesR (a b c : Int) (l : List S27) (s : Int) : Nat → List Int
  | 0 => startR a s
  | n + 1 => nextR a b c l (placesR a b c l s n)

/-- a row of counts: its length, no count below nothing, and its sum -/
structure RowI (N : Nat) (row : List Int) (m : Int) : Prop where
  len : row.length = N
  nn : NN row
  sum : tot row = m

theorem RowI.get {N : Nat} {row : List Int} {m : Int} (h : RowI N row m) (i : Nat) (hi : i < N) : 0 ≤ rd row (i : Int) ∧ rd row (i : Int) ≤ m := by
  rw [rd_at (by rw [h.len]; exact hi)]
  have hm : row[i]'(by rw [h.len]; exact hi) ∈ row := List.getElem_mem _
  have h2 := h.nn.le _ hm
  rw [h.sum] at h2
  exact ⟨h.nn _ hm, h2⟩

theorem RowI.add {N : Nat} {out : List Int} {m : Int} (h : RowI N out m) (t x : Int) (ht0 : 0 ≤ t) (ht1 : t < N) (hx : 0 ≤ x) : RowI N (out.set t.toNat (rd out t + x)) (m + x) := by
  have e : t = (t.toNat : Int) := by omega
  have hi : t.toNat < out.length := by rw [h.len]; omega
  have hg := h.get t.toNat (by omega)
  rw [← e] at hg
  refine ⟨by rw [List.length_set]; exact h.len, h.nn.set _ (by omega), ?_⟩
  rw [tot_set _ _ _ hi, h.sum]
  have : rd out t = out[t.toNat] := by rw [← rd_at hi, ← e]
  omega

theorem RowI.addAll {N : Nat} (x : Int) (hx : 0 ≤ x) : ∀ (ts : List Int) {out : List Int} {m : Int}, RowI N out m → (∀ t ∈ ts, 0 ≤ t ∧ t < N) → RowI N (Pr.addAll x out ts) (m + ts.length * x)
  | [], out, m, h, ht => by
    have : m + (([] : List Int).length : Int) * x = m := by simp
    rw [this]; exact h
  | t :: ts, out, m, h, ht => by
    have h1 := ht t (List.mem_cons_self ..)
    have := RowI.addAll x hx ts (h.add t x h1.1 h1.2 hx) (fun y hy => ht y (List.mem_cons_of_mem _ hy))
    have e : m + ((t :: ts).length : Int) * x = m + x + (ts.length : Int) * x := by
      rw [List.length_cons, Int.natCast_add, Int.add_mul]
      omega
    rw [e]
    exact this

theorem Board.lands_le {a b c : Int} {l : List S27} (B : Board a b c l) (s : Int) (hs0 : 0 ≤ s) (hs1 : s ≤ a) : ∀ (d i : Nat), (i + d : Nat) = b + 1 → 1 ≤ i → ∀ x ∈ lands a c l s i d, 0 ≤ x ∧ x ≤ a
  | 0, i, h1, h2, x, hx => by simp [lands] at hx
  | d + 1, i, h1, h2, x, hx => by
    have := B.b2; have := B.a1
    rcases List.mem_cons.mp hx with rfl | hx
    · unfold thr
      split
      · omega
      · split
        · exact ⟨(B.beg_le _ (by omega) (by omega)).1, (B.beg_le _ (by omega) (by omega)).2.1⟩
        · split
          · omega
          · split
            · rename_i h; exact ⟨(B.beg_le _ h.2 (by omega)).1, (B.beg_le _ h.2 (by omega)).2.1⟩
            · omega
    · exact B.lands_le s hs0 hs1 d (i + 1) (by omega) (by omega) x hx

theorem Board.lands_lt {a b c : Int} {l : List S27} (B : Board a b c l) (s : Int) (hs0 : 0 ≤ s) (hs1 : s ≤ a) : ∀ x ∈ lands a c l s 1 b.toNat, 0 ≤ x ∧ x < ((a + 1).toNat : Int) := fun x hx => by
  have := B.b1; have := B.a1
  have := B.lands_le s hs0 hs1 b.toNat 1 (by omega) (by omega) x hx
  omega

theorem stepRow_RowI {a b c : Int} {l : List S27} (B : Board a b c l) {row : List Int} {m : Int} (hr : RowI (a + 1).toNat row m) : ∀ (d i : Nat) (out : List Int) (q : Int), i + d = (a + 1).toNat → RowI (a + 1).toNat out q →
    RowI (a + 1).toNat (stepRow a b c l row i d out) (q + b * tot (row.drop i))
  | 0, i, out, q, h1, ho => by
    rw [List.drop_of_length_le (by rw [hr.len]; omega)]
    show RowI _ out (q + b * 0)
    rw [Int.mul_zero, Int.add_zero]
    exact ho
  | d + 1, i, out, q, h1, ho => by
    have hi : i < row.length := by rw [hr.len]; omega
    have hg := hr.get i (by omega)
    have := B.b1; have := B.a1
    have e := tot_drop hi
    rw [← rd_at hi] at e
    have step : RowI (a + 1).toNat (if rd row (i : Int) = 0 then out else addAll (rd row (i : Int)) out (lands a c l (i : Int) 1 b.toNat)) (q + b * rd row (i : Int)) := by
      by_cases h0 : rd row (i : Int) = 0
      · rw [if_pos h0, h0, Int.mul_zero, Int.add_zero]; exact ho
      · rw [if_neg h0]
        have := ho.addAll (rd row (i : Int)) hg.1 (lands a c l (i : Int) 1 b.toNat) (B.lands_lt (i : Int) (by omega) (by omega))
        rw [lands_length, show ((b.toNat : Nat) : Int) = b by omega] at this
        exact this
    have := stepRow_RowI B hr d (i + 1) _ _ (by omega) step
    rw [e, Int.mul_add, ← Int.add_assoc]
    exact this

theorem nextR_RowI {a b c : Int} {l : List S27} (B : Board a b c l) {row : List Int} {m : Int} (hr : RowI (a + 1).toNat row m) : RowI (a + 1).toNat (nextR a b c l row) (b * m) := by
  have := stepRow_RowI B hr (a + 1).toNat 0 (List.replicate (a + 1).toNat 0) 0 (by omega) ⟨List.length_replicate, NN.replicate _, tot_replicate _⟩
  rw [List.drop_zero, hr.sum, Int.zero_add] at this
  exact this

theorem startR_RowI {a b c : Int} {l : List S27} (B : Board a b c l) (s : Int) (hs0 : 0 ≤ s) (hs1 : s ≤ a) : RowI (a + 1).toNat (startR a s) 1 := by
  have h : RowI (a + 1).toNat (List.replicate (a + 1).toNat 0) 0 := ⟨List.length_replicate, NN.replicate _, tot_replicate _⟩
  have := h.add s 1 hs0 (by omega) (by omega)
  have e : rd (List.replicate (a + 1).toNat 0) s = 0 := by
    rw [show s = (s.toNat : Int) by omega, rd_at (by simp; omega)]
    simp
  rw [e, Int.zero_add] at this
  exact this

theorem placesR_RowI {a b c : Int} {l : List S27} (B : Board a b c l) (s : Int) (hs0 : 0 ≤ s) (hs1 : s ≤ a) : ∀ n, RowI (a + 1).toNat (placesR a b c l s n) (b ^ n)
  | 0 => by rw [Int.pow_zero]; exact startR_RowI B s hs0 hs1
  | n + 1 => by
    have := nextR_RowI B (placesR_RowI B s hs0 hs1 n)
    rw [Int.pow_succ, Int.mul_comm]
    exact this

theorem pow_le {b : Int} (h1 : 1 ≤ b) (h8 : b ≤ 8) : ∀ n : Nat, 1 ≤ b ^ n ∧ b ^ n ≤ 8 ^ n
  | 0 => by rw [Int.pow_zero, Int.pow_zero]; omega
  | n + 1 => by
    obtain ⟨i1, i2⟩ := pow_le h1 h8 n
    rw [Int.pow_succ, Int.pow_succ]
    constructor
    · have := Int.mul_le_mul i1 h1 (by omega) (by omega)
      simpa using this
    · exact Int.mul_le_mul i2 h8 (by omega) (by omega)

theorem pow8_le {n : Nat} (h : n ≤ 20) : (8 : Int) ^ n ≤ 1152921504606846976 := by
  have : (8 : Int) ^ n ≤ 8 ^ 20 := by
    have h2 : (8 : Nat) ^ n ≤ 8 ^ 20 := Nat.pow_le_pow_right (by omega) h
    exact_mod_cast h2
  exact Int.le_trans this (by decide)

/-! #### the program's next row -/
theorem next_l1 {a b c : Int} {l : List S27} (N : Nat) (row : List Int) (rl i : Int) (x : Int) (hx : 0 ≤ x) (ts : List Int) (hts : ∀ t ∈ ts, 0 ≤ t ∧ t < (N : Int)) (htl : ts.length ≤ 8) (M : Int) (hM : M ≤ 4611686018427387904) (K : Nat) (G : List Int → List Int)
    (hc : ∀ k out q, K ≤ k → RowI N out q → q ≤ M → impl_Board_next.l0 k out row rl (wrap64 (i + 1)) a b c l = some (G out)) : ∀ (d j k : Nat) (out : List Int) (q : Int), j + d = ts.length → K + d < k → RowI N out q → q + d * x ≤ M →
    impl_Board_next.l1 k out x row rl i ts (ts.length : Int) (j : Int) a b c l = some (G (addAll x out (ts.drop j)))
  | 0, j, k, out, q, h1, h2, h3, h4 => by
    obtain ⟨k, rfl⟩ : ∃ m, k = m + 1 := ⟨k - 1, by omega⟩
    simp only [impl_Board_next.l1]
    rw [if_neg (by omega), hc k out q (by omega) h3 (by omega), List.drop_of_length_le (by omega)]
    rfl
  | d + 1, j, k, out, q, h1, h2, h3, h4 => by
    obtain ⟨k, rfl⟩ : ∃ m, k = m + 1 := ⟨k - 1, by omega⟩
    have hj : j < ts.length := by omega
    have ht := hts ts[j] (List.getElem_mem hj)
    have e : ((d + 1 : Nat) : Int) * x = d * x + x := by rw [Int.natCast_add, Int.add_mul]; omega
    have hdx : 0 ≤ (d : Int) * x := Int.mul_nonneg (by omega) hx
    have hg := h3.get ts[j].toNat (by omega)
    rw [show ((ts[j].toNat : Nat) : Int) = ts[j] by omega] at hg
    simp only [impl_Board_next.l1]
    rw [if_pos (nat_lt hj), if_pos (nat_nn j), if_pos (nat_lt hj), rd_at hj, if_pos ht.1, if_pos (by rw [h3.len]; exact ht.2), w64_succ (by omega), w64 (rd out ts[j] + x) (by omega) (by omega),
      next_l1 N row rl i x hx ts hts htl M hM K G hc d (j + 1) k _ (q + x) (by omega) (by omega) (h3.add _ x ht.1 ht.2 hx) (by omega), List.drop_eq_getElem_cons hj]
    rfl

theorem next_l0 {a b c : Int} {l : List S27} (B : Board a b c l) (row : List Int) (m : Int) (hr : RowI (a + 1).toNat row m) (hm : b * m ≤ 4611686018427387904) : ∀ (d i k : Nat) (out : List Int) (q : Int), i + d = (a + 1).toNat → 12 * d + 50 ≤ k → RowI (a + 1).toNat out q → q + b * tot (row.drop i) ≤ b * m →
    impl_Board_next.l0 k out row (row.length : Int) (i : Int) a b c l = some (stepRow a b c l row i d out)
  | 0, i, k, out, q, h1, h2, h3, h4 => by
    obtain ⟨k, rfl⟩ : ∃ m, k = m + 1 := ⟨k - 1, by omega⟩
    simp only [impl_Board_next.l0]
    rw [if_neg (by rw [hr.len]; omega)]
    rfl
  | d + 1, i, k, out, q, h1, h2, h3, h4 => by
    obtain ⟨k, rfl⟩ : ∃ m, k = m + 1 := ⟨k - 1, by omega⟩
    have hi : i < row.length := by rw [hr.len]; omega
    have hg := hr.get i (by omega)
    have := B.b1; have := B.b2; have := B.a1; have := B.a2
    have e := tot_drop hi
    rw [← rd_at hi] at e
    rw [e, Int.mul_add] at h4
    have hnn := (hr.nn.drop (i + 1)).tot
    have hb := Int.mul_nonneg (show 0 ≤ b by omega) hnn
    simp only [impl_Board_next.l0]
    rw [if_pos (nat_lt hi), if_pos (nat_nn i), if_pos (nat_lt hi)]
    by_cases h0 : rd row (i : Int) = 0
    · rw [if_pos h0, w64_succ (by omega), next_l0 B row m hr hm d (i + 1) k out q (by omega) (by omega) h3 (by rw [h0] at h4; omega)]
      show _ = some (stepRow a b c l row (i + 1) d (if rd row (i : Int) = 0 then out else _))
      rw [if_pos h0]
    · rw [if_neg h0, landings_eq B i (by omega) (by omega) k (by omega)]
      simp only [Option.bind_some]
      have := next_l1 (a := a) (b := b) (c := c) (l := l) (a + 1).toNat row (row.length : Int) (i : Int) (rd row (i : Int)) hg.1 (lands a c l i 1 b.toNat) (B.lands_lt i (by omega) (by omega)) (by rw [lands_length]; omega) (b * m - b * tot (row.drop (i + 1))) (by omega) (12 * d + 50) (fun out => stepRow a b c l row (i + 1) d out)
        (fun k out q hk ho hq => by
          rw [w64_succ (by omega)]
          exact next_l0 B row m hr hm d (i + 1) k out q (by omega) hk ho (by omega)) b.toNat 0 k out q (by rw [lands_length]; omega) (by omega) h3 (by rw [show ((b.toNat : Nat) : Int) = b by omega]; omega)
      rw [show ((0 : Nat) : Int) = 0 from rfl] at this
      rw [this]
      show _ = some (stepRow a b c l row (i + 1) d (if rd row (i : Int) = 0 then out else _))
      rw [if_neg h0]
      rfl

theorem next_eq {a b c : Int} {l : List S27} (B : Board a b c l) (row : List Int) (m : Int) (hr : RowI (a + 1).toNat row m) (hm : b * m ≤ 4611686018427387904) (k : Nat) (hk : 1300 ≤ k) : impl_Board_next.f k a b c l row = some (nextR a b c l row) := by
  have := B.a1; have := B.a2
  unfold impl_Board_next.f
  rw [w64 (a + 1) (by omega) (by omega), if_pos (by omega), if_pos (by omega)]
  have := next_l0 B row m hr hm (a + 1).toNat 0 k (List.replicate (a + 1).toNat 0) 0 (by omega) (by omega) ⟨List.length_replicate, NN.replicate _, tot_replicate _⟩ (by rw [List.drop_zero, hr.sum]; omega)
  exact this

theorem startOf_eq {a b c : Int} {l : List S27} (B : Board a b c l) (s : Int) (hs0 : 0 ≤ s) (hs1 : s ≤ a) : impl_Board_startOf.f a b c l s = some (startR a s) := by
  have := B.a1; have := B.a2
  unfold impl_Board_startOf.f
  rw [w64 (a + 1) (by omega) (by omega), if_pos (by omega), if_pos (by omega)]
  simp only [Option.bind_some]
  rw [if_pos (by omega), if_pos (by rw [List.length_replicate]; omega)]
  rfl

theorem row_next {a b c : Int} {l : List S27} (B : Board a b c l) {n : Nat} (hn : n ≤ 20) : b * b ^ n ≤ 4611686018427387904 ∨ n = 20 := by
  have := B.b1; have := B.b2
  by_cases h : n = 20
  · exact Or.inr h
  · have h1 := (pow_le B.b1 B.b2 (n + 1)).2
    have h2 := pow8_le (n := n + 1) (by omega)
    rw [Int.pow_succ, Int.mul_comm] at h1
    left
    omega

theorem places_l0 {a b c : Int} {l : List S27} (B : Board a b c l) (s : Int) (hs0 : 0 ≤ s) (hs1 : s ≤ a) (n : Nat) (hn : n ≤ 20) : ∀ (d i k : Nat), i + d = n → 1300 + d < k →
    impl_Board_places.l0 k (placesR a b c l s i) (n : Int) (i : Int) a b c l = some (placesR a b c l s n)
  | 0, i, k, h1, h2 => by
    obtain ⟨k, rfl⟩ : ∃ m, k = m + 1 := ⟨k - 1, by omega⟩
    simp only [impl_Board_places.l0]
    rw [if_neg (by omega), show i = n by omega]
  | d + 1, i, k, h1, h2 => by
    obtain ⟨k, rfl⟩ : ∃ m, k = m + 1 := ⟨k - 1, by omega⟩
    simp only [impl_Board_places.l0]
    have hb : b * b ^ i ≤ 4611686018427387904 := by
      rcases row_next B (n := i) (by omega) with h | h
      · exact h
      · omega
    rw [if_pos (by omega), next_eq B _ _ (placesR_RowI B s hs0 hs1 i) hb k (by omega)]
    simp only [Option.bind_some]
    rw [w64_succ (by omega)]
    exact places_l0 B s hs0 hs1 n hn d (i + 1) k (by omega) (by omega)

theorem places_eq {a b c : Int} {l : List S27} (B : Board a b c l) (s : Int) (hs0 : 0 ≤ s) (hs1 : s ≤ a) (n : Int) (h0 : 0 ≤ n) (hn : n ≤ 20) (k : Nat) (hk : 1400 ≤ k) : impl_Board_places.f k a b c l s n = some (placesR a b c l s n.toNat) := by
  unfold impl_Board_places.f
  rw [startOf_eq B s hs0 hs1]
  simp only [Option.bind_some]
  have := places_l0 B s hs0 hs1 n.toNat (by omega) n.toNat 0 k (by omega) (by omega)
  rw [show ((0 : Nat) : Int) = 0 from rfl, show ((n.toNat : Nat) : Int) = n by omega] at this
  exact this

/-! #### the reference's places -/
theorem ch_l2 {a b c : Int} {l : List S27} (B : Board a b c l) (y : Int) (row : List Int) (rl : Int) (i : Nat) (hi : (i : Int) ≤ a) (x : Int) (hx : 0 ≤ x) (M : Int) (hM : M ≤ 4611686018427387904) (K : Nat) (hK : 40 ≤ K) (G : List Int → Option (List Int))
    (hc : ∀ k out q, K ≤ k → RowI (a + 1).toNat out q → q ≤ M → spec_chPlaces.l1 k y out row rl (wrap64 ((i : Int) + 1)) a b c l = G out) : ∀ (d j k : Nat) (out : List Int) (q : Int), (j + d : Nat) = b + 1 → 1 ≤ j → K + d < k → RowI (a + 1).toNat out q → q + d * x ≤ M →
    spec_chPlaces.l2 k y out (i : Int) x (j : Int) row rl (i : Int) a b c l = G (addAll x out (lands a c l i j d))
  | 0, j, k, out, q, h1, h1', h2, h3, h4 => by
    obtain ⟨k, rfl⟩ : ∃ m, k = m + 1 := ⟨k - 1, by omega⟩
    simp only [spec_chPlaces.l2]
    rw [if_neg (by omega), hc k out q (by omega) h3 (by omega)]
    rfl
  | d + 1, j, k, out, q, h1, h1', h2, h3, h4 => by
    obtain ⟨k, rfl⟩ : ∃ m, k = m + 1 := ⟨k - 1, by omega⟩
    have := B.b2; have := B.a1; have := B.a2
    have ht := B.lands_le i (by omega) hi (d + 1) j (by omega) h1' (thr a c l i (j : Int)) (List.mem_cons_self ..)
    have e : ((d + 1 : Nat) : Int) * x = d * x + x := by rw [Int.natCast_add, Int.add_mul]; omega
    have hdx : 0 ≤ (d : Int) * x := Int.mul_nonneg (by omega) hx
    have hg := h3.get (thr a c l i (j : Int)).toNat (by omega)
    rw [show (((thr a c l i (j : Int)).toNat : Nat) : Int) = thr a c l i (j : Int) by omega] at hg
    simp only [spec_chPlaces.l2]
    rw [if_pos (by omega), sqThrow_eq B i j (by omega) hi (by omega) (by omega) k (by omega)]
    simp only [Option.bind_some]
    rw [if_pos ht.1, if_pos (by rw [h3.len]; omega), w64_succ (by omega), w64 (rd out (thr a c l i (j : Int)) + x) (by omega) (by omega),
      ch_l2 B y row rl i hi x hx M hM K hK G hc d (j + 1) k _ (q + x) (by omega) (by omega) (by omega) (h3.add _ x ht.1 (by omega) hx) (by omega)]
    rfl

theorem ch_l1 {a b c : Int} {l : List S27} (B : Board a b c l) (y : Int) (row : List Int) (m : Int) (hr : RowI (a + 1).toNat row m) (hm : b * m ≤ 4611686018427387904) (K : Nat) (hK : 40 ≤ K) (G : List Int → Option (List Int))
    (hc : ∀ k out q, K ≤ k → RowI (a + 1).toNat out q → q ≤ b * m → spec_chPlaces.l0 k (wrap64 (y - 1)) out a b c l = G out) : ∀ (d i k : Nat) (out : List Int) (q : Int), i + d = (a + 1).toNat → 12 * d + K + 1 ≤ k → RowI (a + 1).toNat out q → q + b * tot (row.drop i) ≤ b * m →
    spec_chPlaces.l1 k y out row (row.length : Int) (i : Int) a b c l = G (stepRow a b c l row i d out)
  | 0, i, k, out, q, h1, h2, h3, h4 => by
    obtain ⟨k, rfl⟩ : ∃ m, k = m + 1 := ⟨k - 1, by omega⟩
    rw [List.drop_of_length_le (by rw [hr.len]; omega)] at h4
    have h4' : q + b * 0 ≤ b * m := h4
    simp only [spec_chPlaces.l1]
    rw [if_neg (by rw [hr.len]; omega), hc k out q (by omega) h3 (by omega)]
    rfl
  | d + 1, i, k, out, q, h1, h2, h3, h4 => by
    obtain ⟨k, rfl⟩ : ∃ m, k = m + 1 := ⟨k - 1, by omega⟩
    have hi : i < row.length := by rw [hr.len]; omega
    have hg := hr.get i (by omega)
    have := B.b1; have := B.b2; have := B.a1; have := B.a2
    have e := tot_drop hi
    rw [← rd_at hi] at e
    rw [e, Int.mul_add] at h4
    have hnn := (hr.nn.drop (i + 1)).tot
    have hb := Int.mul_nonneg (show 0 ≤ b by omega) hnn
    simp only [spec_chPlaces.l1]
    rw [if_pos (nat_lt hi), if_pos (nat_nn i), if_pos (nat_lt hi)]
    by_cases h0 : rd row (i : Int) = 0
    · rw [if_neg (by omega), w64_succ (by omega), ch_l1 B y row m hr hm K hK G hc d (i + 1) k out q (by omega) (by omega) h3 (by rw [h0] at h4; omega)]
      show _ = G (stepRow a b c l row (i + 1) d (if rd row (i : Int) = 0 then out else _))
      rw [if_pos h0]
    · rw [if_pos (by omega)]
      have := ch_l2 B y row (row.length : Int) i (by omega) (rd row (i : Int)) hg.1 (b * m - b * tot (row.drop (i + 1))) (by omega) (12 * d + K + 1) (by omega) (fun out => G (stepRow a b c l row (i + 1) d out))
        (fun k out q hk ho hq => by
          rw [w64_succ (by omega)]
          exact ch_l1 B y row m hr hm K hK G hc d (i + 1) k out q (by omega) hk ho (by omega)) b.toNat 1 k out q (by omega) (by omega) (by omega) h3 (by rw [show ((b.toNat : Nat) : Int) = b by omega]; omega)
      rw [show ((1 : Nat) : Int) = 1 from rfl] at this
      rw [this]
      show _ = G (stepRow a b c l row (i + 1) d (if rd row (i : Int) = 0 then out else _))
      rw [if_neg h0]

def iterR (a b c : Int) (l : List S27) : Nat → List Int → List Int
  | 0, row => row
  | d + 1, row => iterR a b c l d (nextR a b c l row)

theorem iterR_places (a b c : Int) (l : List S27) (s : Int) : ∀ d i, iterR a b c l d (placesR a b c l s i) = placesR a b c l s (i + d)
  | 0, i => rfl
  | d + 1, i => by
    have := iterR_places a b c l s d (i + 1)
    rw [show i + (d + 1) = i + 1 + d by omega, ← this]
    rfl

theorem ch_l0 {a b c : Int} {l : List S27} (B : Board a b c l) : ∀ (d k : Nat) (row : List Int) (m : Int), d ≤ 20 → 1300 * d + 100 ≤ k → RowI (a + 1).toNat row m → 0 ≤ m → m * 8 ^ d ≤ 1152921504606846976 →
    spec_chPlaces.l0 k (d : Int) row a b c l = some (iterR a b c l d row)
  | 0, k, row, m, h1, h2, hR, h3, h4 => by
    obtain ⟨k, rfl⟩ : ∃ m, k = m + 1 := ⟨k - 1, by omega⟩
    simp only [spec_chPlaces.l0]
    rw [if_neg (by omega)]
    rfl
  | d + 1, k, row, m, h1, h2, hR, h3, h4 => by
    obtain ⟨k, rfl⟩ : ∃ m, k = m + 1 := ⟨k - 1, by omega⟩
    have := B.a1; have := B.a2; have := B.b1; have := B.b2
    have p8 : (1 : Int) ≤ 8 ^ d := (pow_le (b := 8) (by omega) (by omega) d).1
    rw [Int.pow_succ, ← Int.mul_assoc] at h4
    have hm8 : 8 * m ≤ 1152921504606846976 := by
      have := Int.mul_le_mul_of_nonneg_left p8 h3
      omega
    have hbm : b * m ≤ 8 * m := Int.mul_le_mul_of_nonneg_right B.b2 h3
    have hbm0 : 0 ≤ b * m := Int.mul_nonneg (by omega) h3
    simp only [spec_chPlaces.l0]
    rw [if_pos (by omega), w64 (a + 1) (by omega) (by omega), if_pos (by omega), if_pos (by omega)]
    have e : wrap64 (((d + 1 : Nat) : Int) - 1) = (d : Int) := by rw [w64 _ (by omega) (by omega)]; omega
    have := ch_l1 B ((d + 1 : Nat) : Int) row m hR (by omega) (1300 * d + 100) (by omega) (fun out => some (iterR a b c l d out)) (fun k out q hk ho hq => by
      rw [e]
      have hq0 : 0 ≤ q := by rw [← ho.sum]; exact ho.nn.tot
      refine ch_l0 B d k out q (by omega) hk ho hq0 ?_
      have h5 : q * 8 ^ d ≤ 8 * m * 8 ^ d := Int.mul_le_mul_of_nonneg_right (by omega) (by omega)
      have h6 : 8 * m * 8 ^ d = m * 8 ^ d * 8 := by rw [Int.mul_comm 8 m, Int.mul_assoc, Int.mul_assoc, Int.mul_comm 8]
      omega) (a + 1).toNat 0 k (List.replicate (a + 1).toNat 0) 0 (by omega) (by omega) ⟨List.length_replicate, NN.replicate _, tot_replicate _⟩ (by rw [List.drop_zero, hR.sum]; omega)
    exact this

theorem chPlaces_eq {a b c : Int} {l : List S27} (B : Board a b c l) (s : Int) (hs0 : 0 ≤ s) (hs1 : s ≤ a) (n : Int) (h0 : 0 ≤ n) (hn : n ≤ 20) (k : Nat) (hk : 30000 ≤ k) : spec_chPlaces.f k a b c l s n = some (placesR a b c l s n.toNat) := by
  have := B.a1; have := B.a2
  unfold spec_chPlaces.f
  rw [w64 (a + 1) (by omega) (by omega), if_pos (by omega), if_pos (by omega)]
  simp only [Option.bind_some]
  rw [if_pos (by omega), if_pos (by rw [List.length_replicate]; omega)]
  have := ch_l0 B n.toNat k (startR a s) 1 (by omega) (by omega) (startR_RowI B s hs0 hs1) (by omega) (by have := pow8_le (n := n.toNat) (by omega); omega)
  rw [show ((n.toNat : Nat) : Int) = n by omega] at this
  have e := iterR_places a b c l s n.toNat 0
  rw [Nat.zero_add] at e
  rw [← e]
  exact this

end Go.Proofs.Ytkobjjadojpjfaa.Pr
