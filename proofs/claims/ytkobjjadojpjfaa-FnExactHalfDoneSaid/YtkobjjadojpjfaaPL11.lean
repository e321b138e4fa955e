/- Proved here: from how many throws on enough lists lead to the end, as the program and as the reference find it; the conditions are a board's own bounds. -/
import Derived.Test.YtkobjjadojpjfaaPL4
import Derived.Test.YtkobjjadojpjfaaHDone
import Derived.Test.YtkobjjadojpjfaaFSpecChUntil
namespace Go.Proofs.Ytkobjjadojpjfaa.Pr
open Go.RowKit Go.Proofs.YtkobjjadojpjfaaW.PrintWords Go.Proofs.YtkobjjadojpjfaaW.PrintLast Go.Proofs.YtkobjjadojpjfaaW.PrintMore
set_option linter.unusedVariables false
set_option linter.unusedSimpArgs false

theorem pow_mul_le {b : Int} (h1 : 1 ≤ b) (h8 : b ≤ 8) {i n : Nat} (h : i ≤ n) (hn : n ≤ 20) : 1 ≤ b ^ i ∧ b ^ i ≤ 1152921504606846976 := by
  have p := pow_le h1 h8 i
  have q := pow8_le (n := i) (by omega)
  omega

theorem chAll_l0 {a b c : Int} {l : List S27} (B : Board a b c l) (n : Nat) (hn : n ≤ 20) : ∀ (d i k : Nat), i + d = n → d < k → spec_chAll.l0 k (d : Int) (b ^ i) a b c l = some (b ^ n)
  | 0, i, k, h1, h2 => by
    obtain ⟨k, rfl⟩ : ∃ m, k = m + 1 := ⟨k - 1, by omega⟩
    simp only [spec_chAll.l0]
    rw [if_neg (by omega), show i = n by omega]
  | d + 1, i, k, h1, h2 => by
    obtain ⟨k, rfl⟩ : ∃ m, k = m + 1 := ⟨k - 1, by omega⟩
    have p := pow_mul_le B.b1 B.b2 (i := i + 1) (n := n) (by omega) hn
    rw [Int.pow_succ] at p
    simp only [spec_chAll.l0]
    rw [if_pos (by omega), w64 (((d + 1 : Nat) : Int) - 1) (by omega) (by omega), w64 (b ^ i * b) (by omega) (by omega), ← Int.pow_succ, show ((d + 1 : Nat) : Int) - 1 = (d : Int) by omega]
    exact chAll_l0 B n hn d (i + 1) k (by omega) (by omega)

theorem chAll_eq {a b c : Int} {l : List S27} (B : Board a b c l) (n : Nat) (hn : n ≤ 20) (k : Nat) (hk : 30 ≤ k) : spec_chAll.f k a b c l (n : Int) = some (b ^ n) := by
  unfold spec_chAll.f
  have := chAll_l0 B n hn n 0 k (by omega) (by omega)
  rw [Int.pow_zero] at this
  exact this

/-- what the reference asks of the lists that are done, of all, and of a share -/
def askS (sh D m : Int) : Bool := if sh = 2 then decide (m ≤ 2 * D) else decide (D = m)

theorem ask_eq {α : Type} (sh D m : Int) (hsh : sh = 1 ∨ sh = 2) (h0 : 0 ≤ D) (h1 : D ≤ m) (h2 : m ≤ 1152921504606846976) (A X : Option α) :
    (if sh = 0 then none else (if (wrap64 (m - D)) ≤ (wrap64 (Int.tdiv m sh)) then (if sh > 1 then A else (if (wrap64 (m - D)) = 0 then A else X)) else (if (wrap64 (m - D)) = 0 then A else X))) = if askS sh D m = true then A else X := by
  have ht : Int.tdiv m sh = m / sh := Int.tdiv_eq_ediv_of_nonneg (by omega)
  rw [ht]
  unfold askS
  rcases hsh with rfl | rfl
  · rw [Int.ediv_one, if_neg (show ¬ (1 : Int) = 0 by decide), w64 (m - D) (by omega) (by omega), w64 m (by omega) (by omega), if_pos (show m - D ≤ m by omega), if_neg (show ¬ (1 : Int) > 1 by decide), if_neg (show ¬ (1 : Int) = 2 by decide)]
    by_cases h : D = m
    · rw [if_pos (show m - D = 0 by omega), decide_eq_true h, if_pos rfl]
    · rw [if_neg (show ¬ m - D = 0 by omega), decide_eq_false h, if_neg (show ¬ false = true by decide)]
  · rw [if_neg (show ¬ (2 : Int) = 0 by decide), w64 (m - D) (by omega) (by omega), w64 (m / 2) (by omega) (by omega), if_pos (show (2 : Int) > 1 by decide), if_pos (show (2 : Int) = 2 from rfl)]
    by_cases h : m ≤ 2 * D
    · rw [if_pos (show m - D ≤ m / 2 by omega), decide_eq_true h, if_pos rfl]
    · rw [if_neg (show ¬ m - D ≤ m / 2 by omega), if_neg (show ¬ m - D = 0 by omega), decide_eq_false h, if_neg (show ¬ false = true by decide)]

theorem until_both {a b c : Int} {l : List S27} (B : Board a b c l) (s : Int) (hs0 : 0 ≤ s) (hs1 : s ≤ a) (sh : Int) (hsh : sh = 1 ∨ sh = 2) (v : Fv2) (hv : ∀ D m : Int, 0 ≤ D → D ≤ m → m ≤ 1152921504606846976 → v.p D m = some (askS sh D m)) :
    ∀ (d n : Nat) (row : List Int) (m : Int), n + d = 21 → (0 < d → row = placesR a b c l s n ∧ m = b ^ n) →
    ∃ r, ∀ k, 31000 + d ≤ k → spec_chUntil.l0 k s sh (n : Int) a b c l = some r ∧ impl_firstDone.l0 k v row m (n : Int) a b c l = some r
  | 0, n, row, m, h1, h2 => by
    refine ⟨(0, false), fun k hk => ?_⟩
    obtain ⟨k, rfl⟩ : ∃ m, k = m + 1 := ⟨k - 1, by omega⟩
    have q : ¬ (n : Int) ≤ 20 := by omega
    simp only [spec_chUntil.l0, impl_firstDone.l0]
    rw [if_neg q, if_neg q]
    exact ⟨rfl, rfl⟩
  | d + 1, n, row, m, h1, h2 => by
    obtain ⟨rfl, rfl⟩ := h2 (by omega)
    have := B.a1; have := B.a2
    have hR := placesR_RowI B s hs0 hs1 n
    have hl := hR.len
    have p := pow_mul_le B.b1 B.b2 (i := n) (n := 20) (by omega) (by omega)
    have hg := hR.get a.toNat (by omega)
    rw [show ((a.toNat : Nat) : Int) = a by omega] at hg
    obtain ⟨r, hr⟩ := until_both B s hs0 hs1 sh hsh v hv d (n + 1) (if n < 20 then placesR a b c l s (n + 1) else placesR a b c l s n) (if n < 20 then b ^ (n + 1) else b ^ n) (by omega) (fun h => by
      rw [if_pos (by omega), if_pos (by omega)]; exact ⟨rfl, rfl⟩)
    refine ⟨if askS sh (rd (placesR a b c l s n) a) (b ^ n) = true then ((n : Int), true) else r, fun k hk => ?_⟩
    obtain ⟨k, rfl⟩ : ∃ m, k = m + 1 := ⟨k - 1, by omega⟩
    have q : (n : Int) ≤ 20 := by omega
    have q0 : (0 : Int) ≤ a := by omega
    have q1 : a < ((placesR a b c l s n).length : Int) := by rw [hl]; omega
    have hrk := hr k (by omega)
    refine ⟨?_, ?_⟩
    · simp only [spec_chUntil.l0]
      rw [if_pos q, chAll_eq B n (by omega) k (by omega), chPlaces_eq B s hs0 hs1 (n : Int) (by omega) (by omega) k (by omega)]
      simp only [Option.bind_some, Int.toNat_natCast]
      rw [if_pos q0, if_pos q1, ask_eq sh _ _ hsh hg.1 hg.2 p.2, w64_succ (by omega), hrk.1]
      split <;> rfl
    · simp only [impl_firstDone.l0]
      rw [if_pos q, if_pos q0, if_pos q1, show fv2_.f v (rd (placesR a b c l s n) a) (b ^ n) = some (askS sh (rd (placesR a b c l s n) a) (b ^ n)) from hv _ _ hg.1 hg.2 p.2]
      simp only [Option.bind_some]
      by_cases hq : askS sh (rd (placesR a b c l s n) a) (b ^ n) = true
      · rw [if_pos hq, if_pos hq]
      · rw [if_neg hq, if_neg hq]
        by_cases hn : n < 20
        · have hb : b * b ^ n ≤ 4611686018427387904 := by
            rcases row_next B (n := n) (by omega) with h | h
            · exact h
            · omega
          have p2 := pow_mul_le B.b1 B.b2 (i := n + 1) (n := 20) (by omega) (by omega)
          rw [Int.pow_succ] at p2
          have e := hrk.2
          rw [if_pos hn, if_pos hn] at e
          rw [if_pos (by omega), next_eq B _ _ hR hb k (by omega)]
          simp only [Option.bind_some]
          rw [w64 (b ^ n * b) (by omega) (by omega), ← Int.pow_succ, w64_succ (by omega)]
          exact e
        · have e := hrk.2
          rw [if_neg hn, if_neg hn] at e
          rw [if_neg (by omega), w64_succ (by omega)]
          exact e

theorem allV_asks (D m : Int) (h0 : 0 ≤ D) (h1 : D ≤ m) (h2 : m ≤ 1152921504606846976) : allV.p D m = some (askS 1 D m) := by
  show some (decide (D = m)) = _
  unfold askS
  rw [if_neg (by decide)]

theorem halfV_asks (D m : Int) (h0 : 0 ≤ D) (h1 : D ≤ m) (h2 : m ≤ 1152921504606846976) : halfV.p D m = some (askS 2 D m) := by
  show some (decide (wrap64 (2 * D) ≥ m)) = _
  unfold askS
  rw [if_pos rfl, w64 (2 * D) (by omega) (by omega)]

theorem firstDone_both (a b c : Int) (l : List S27) (s : Int) (sh : Int) (hsh : sh = 1 ∨ sh = 2) (v : Fv2) (hv : ∀ D m : Int, 0 ≤ D → D ≤ m → m ≤ 1152921504606846976 → v.p D m = some (askS sh D m)) :
    ∃ (K : Nat) (r : Int × Bool), ∀ k, K ≤ k → ((spec_sqAsked.f k a b c l s).bind fun t => (if t = true then ((spec_chUntil.f k a b c l s sh).bind fun bt => (some (bt.1, bt.2))) else (some (0, false)))) = some r ∧ impl_firstDone.f k a b c l s v = some r := by
  by_cases h : (good a b c l && sqr a l s) = true
  · have h' := h
    simp only [Bool.and_eq_true, decide_eq_true_eq] at h'
    have B := Board.of_good h'.1
    have := B.a1; have := B.a2
    obtain ⟨s0, s1⟩ := sqr_le h'.2
    obtain ⟨r, hr⟩ := until_both B s s0 s1 sh hsh v hv 21 0 (startR a s) 1 (by omega) (fun _ => ⟨rfl, by rw [Int.pow_zero]⟩)
    refine ⟨32000, r, fun k hk => ?_⟩
    have hrk := hr k (by omega)
    rw [show ((0 : Nat) : Int) = 0 from rfl] at hrk
    unfold impl_firstDone.f spec_chUntil.f
    rw [sqAsked_eq a b c l s k (by omega), areSquares_eq a b c l _ k (by omega), one_square, h, startOf_eq B s s0 s1]
    simp only [Option.bind_some]
    rw [if_pos trivial, if_pos trivial, hrk.1, hrk.2]
    exact ⟨rfl, rfl⟩
  · refine ⟨100, (0, false), fun k hk => ?_⟩
    unfold impl_firstDone.f
    rw [sqAsked_eq a b c l s k (by omega), areSquares_eq a b c l _ k (by omega), one_square]
    simp only [Option.bind_some]
    rw [if_neg h, if_neg h]
    exact ⟨rfl, rfl⟩

end Go.Proofs.Ytkobjjadojpjfaa.Pr
