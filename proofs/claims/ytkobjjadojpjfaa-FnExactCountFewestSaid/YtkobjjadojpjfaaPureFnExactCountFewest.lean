/- Proved here: the law FnExactCountFewest answers true at all that comes in; no other condition. -/
import Derived.Test.YtkobjjadojpjfaaSFnExactCountFewest
import Derived.Test.YtkobjjadojpjfaaPL10
namespace Go.Proofs.Ytkobjjadojpjfaa.Pure
open Go.RowKit Go.Proofs.Ytkobjjadojpjfaa.Pr Go.Proofs.YtkobjjadojpjfaaW.PrintWords Go.Proofs.YtkobjjadojpjfaaW.PrintLast
set_option linter.unusedSimpArgs false

/-- counts: one for each square, none beyond the greatest one told -/
structure Cts (a : Int) (C : List Int) : Prop where
  len : C.length = (a + 1).toNat
  lo : ∀ i : Int, 0 ≤ i → i ≤ a → 0 ≤ rd C i
  hi : ∀ i : Int, 0 ≤ i → i ≤ a → rd C i ≤ 1000000000000001

def cntT (U : List Int) (n s : Int) : List Int → List Int → List Int
  | [], C => C
  | t :: ts, C => cntT U n s ts (if rd U t = n - 1 then C.set s.toNat (mn 1000000000000001 (rd C s + rd C t)) else C)

def cntS (a b c : Int) (l : List S27) (U : List Int) (n : Int) : Nat → Nat → List Int → List Int
  | 0, _, C => C
  | d + 1, i, C => cntS a b c l U n d (i + 1) (if rd U (i : Int) = n then cntT U n (i : Int) (lands a c l (i : Int) 1 b.toNat) C else C)

def cntN (a b c : Int) (l : List S27) (U : List Int) : Nat → Int → List Int → List Int
  | 0, _, C => C
  | d + 1, n, C => cntN a b c l U d (n + 1) (cntS a b c l U n a.toNat 0 C)

theorem mn_le (x y : Int) : mn x y ≤ x ∧ (0 ≤ x → 0 ≤ y → 0 ≤ mn x y) := by unfold mn; split <;> omega

theorem Cts.step {a : Int} {C : List Int} (h : Cts a C) (s t : Int) (s0 : 0 ≤ s) (s1 : s ≤ a) (t0 : 0 ≤ t) (t1 : t ≤ a) : Cts a (C.set s.toNat (mn 1000000000000001 (rd C s + rd C t))) := by
  have hset : ∀ j : Int, 0 ≤ j → rd (C.set s.toNat (mn 1000000000000001 (rd C s + rd C t))) j = if j = s then mn 1000000000000001 (rd C s + rd C t) else rd C j := fun j hj => by
    rw [rd_set hj (by rw [h.len]; omega), show ((s.toNat : Nat) : Int) = s by omega]
  have := mn_le 1000000000000001 (rd C s + rd C t)
  have := h.lo s s0 s1; have := h.lo t t0 t1
  refine ⟨by rw [List.length_set]; exact h.len, fun i i0 i1 => ?_, fun i i0 i1 => ?_⟩
  · rw [hset i i0]; split
    · omega
    · exact h.lo i i0 i1
  · rw [hset i i0]; split
    · omega
    · exact h.hi i i0 i1

theorem Cts.T {a : Int} (U : List Int) (n s : Int) (s0 : 0 ≤ s) (s1 : s ≤ a) : ∀ (ts C : List Int), Cts a C → (∀ t ∈ ts, 0 ≤ t ∧ t ≤ a) → Cts a (cntT U n s ts C)
  | [], C, h, ht => h
  | t :: ts, C, h, ht => by
    unfold cntT
    have h1 := ht t (List.mem_cons_self ..)
    refine Cts.T U n s s0 s1 ts _ ?_ (fun x hx => ht x (List.mem_cons_of_mem _ hx))
    split
    · exact h.step s t s0 s1 h1.1 h1.2
    · exact h

theorem Cts.S {a b c : Int} {l : List S27} (B : Board a b c l) (U : List Int) (n : Int) : ∀ (d i : Nat) (C : List Int), (i + d : Nat) ≤ a + 1 → Cts a C → Cts a (cntS a b c l U n d i C)
  | 0, i, C, hi, h => h
  | d + 1, i, C, hi, h => by
    have := B.b1; have := B.a1
    unfold cntS
    refine Cts.S B U n d (i + 1) _ (by omega) ?_
    split
    · exact h.T U n (i : Int) (by omega) (by omega) _ _ (fun t ht => by have := B.lands_lt (i : Int) (by omega) (by omega) t ht; omega)
    · exact h

theorem spec_l2 {a b c : Int} {l : List S27} (B : Board a b c l) {U : List Int} (hU : U.length = (a + 1).toNat) (x1 n : Int) (hn0 : 1 ≤ n) (hn1 : n ≤ 1001) (y40 : Int) (i : Nat) (hi : (i : Int) ≤ a) : ∀ (d j k : Nat) (C : List Int), (j + d : Nat) = b + 1 → 1 ≤ j → d + 40 < k → Cts a C →
    ∃ k', k ≤ k' + d + 1 ∧ spec_CountFewest.l2 k x1 U C n (i : Int) (j : Int) y40 (i : Int) a b c l = spec_CountFewest.l1 k' x1 U (cntT U n (i : Int) (lands a c l (i : Int) j d) C) n y40 ((i + 1 : Nat) : Int) a b c l
  | 0, j, k, C, h1, h2, h3, h => by
    obtain ⟨k, rfl⟩ : ∃ m, k = m + 1 := ⟨k - 1, by omega⟩
    have := B.a2
    refine ⟨k, by omega, ?_⟩
    simp only [spec_CountFewest.l2]
    rw [if_neg (by omega), w64_succ (by omega)]
    rfl
  | d + 1, j, k, C, h1, h2, h3, h => by
    obtain ⟨k, rfl⟩ : ∃ m, k = m + 1 := ⟨k - 1, by omega⟩
    have := B.a1; have := B.a2; have := B.b2; have hCl := h.len
    have ht := B.lands_le (i : Int) (by omega) hi (d + 1) j (by omega) h2 (thr a c l (i : Int) (j : Int)) (List.mem_cons_self ..)
    have l1 := h.lo (i : Int) (by omega) hi; have l2 := h.hi (i : Int) (by omega) hi
    have l3 := h.lo _ ht.1 ht.2; have l4 := h.hi _ ht.1 ht.2
    simp only [spec_CountFewest.l2]
    rw [if_pos (by omega), sqThrow_eq B (i : Int) (j : Int) (by omega) hi (by omega) (by omega) k (by omega)]
    simp only [Option.bind_some]
    rw [if_pos ht.1, if_pos (by omega), w64 (n - 1) (by omega) (by omega), w64_succ (by omega)]
    unfold lands cntT
    by_cases hm : rd U (thr a c l (i : Int) (j : Int)) = n - 1
    · obtain ⟨k', hk', e⟩ := spec_l2 B hU x1 n hn0 hn1 y40 i hi d (j + 1) k _ (by omega) (by omega) (by omega) (h.step (i : Int) _ (by omega) hi ht.1 ht.2)
      refine ⟨k', by omega, ?_⟩
      rw [if_pos hm, if_pos (nat_nn i), if_pos (by omega), if_pos (by omega), w64 _ (by omega) (by omega), if_pos hm, ← e]
      unfold spec_l1Least.f mn
      by_cases hlt : 1000000000000001 < rd C (i : Int) + rd C (thr a c l (i : Int) (j : Int))
      · rw [if_pos hlt, if_neg (by omega)]; rfl
      · rw [if_neg hlt]
        by_cases heq : rd C (i : Int) + rd C (thr a c l (i : Int) (j : Int)) = 1000000000000001
        · rw [if_neg (by omega), heq]; rfl
        · rw [if_pos (by omega)]; rfl
    · obtain ⟨k', hk', e⟩ := spec_l2 B hU x1 n hn0 hn1 y40 i hi d (j + 1) k C (by omega) (by omega) (by omega) h
      refine ⟨k', by omega, ?_⟩
      rw [if_neg hm, if_neg hm]
      exact e

theorem impl_l2 {a b c : Int} {l : List S27} (B : Board a b c l) {U : List Int} (hU : U.length = (a + 1).toNat) (x1 n : Int) (hn0 : 1 ≤ n) (hn1 : n ≤ 1001) (i : Nat) (hi : (i : Int) ≤ a) (ts : List Int) (hts : ∀ t ∈ ts, 0 ≤ t ∧ t ≤ a) (htl : ts.length ≤ 8) : ∀ (d j k : Nat) (C : List Int), j + d = ts.length → d < k → Cts a C →
    ∃ k', k ≤ k' + d + 1 ∧ impl_CountFewest.l2 k x1 U C n (i : Int) a (i : Int) ts (ts.length : Int) (j : Int) a b c l = impl_CountFewest.l1 k' x1 U (cntT U n (i : Int) (ts.drop j) C) n a ((i + 1 : Nat) : Int) a b c l
  | 0, j, k, C, h1, h3, h => by
    obtain ⟨k, rfl⟩ : ∃ m, k = m + 1 := ⟨k - 1, by omega⟩
    have := B.a2
    refine ⟨k, by omega, ?_⟩
    simp only [impl_CountFewest.l2]
    rw [if_neg (by omega), w64_succ (by omega), List.drop_of_length_le (by omega)]
    rfl
  | d + 1, j, k, C, h1, h3, h => by
    obtain ⟨k, rfl⟩ : ∃ m, k = m + 1 := ⟨k - 1, by omega⟩
    have := B.a1; have := B.a2; have hCl := h.len
    have hj : j < ts.length := by omega
    have ht := hts ts[j] (List.getElem_mem hj)
    have l1 := h.lo (i : Int) (by omega) hi; have l2 := h.hi (i : Int) (by omega) hi
    have l3 := h.lo _ ht.1 ht.2; have l4 := h.hi _ ht.1 ht.2
    simp only [impl_CountFewest.l2]
    rw [if_pos (by omega), if_pos (nat_nn j), if_pos (by omega), rd_at hj, if_pos ht.1, if_pos (by omega), w64 (n - 1) (by omega) (by omega), w64_succ (by omega), List.drop_eq_getElem_cons hj]
    unfold cntT
    by_cases hm : rd U ts[j] = n - 1
    · obtain ⟨k', hk', e⟩ := impl_l2 B hU x1 n hn0 hn1 i hi ts hts htl d (j + 1) k _ (by omega) (by omega) (h.step (i : Int) _ (by omega) hi ht.1 ht.2)
      refine ⟨k', by omega, ?_⟩
      rw [if_pos hm, if_pos (nat_nn i), if_pos (by omega), if_pos (by omega), w64 _ (by omega) (by omega), if_pos hm, ← e]
    · obtain ⟨k', hk', e⟩ := impl_l2 B hU x1 n hn0 hn1 i hi ts hts htl d (j + 1) k C (by omega) (by omega) h
      refine ⟨k', by omega, ?_⟩
      rw [if_neg hm, if_neg hm]
      exact e

theorem spec_l1 {a b c : Int} {l : List S27} (B : Board a b c l) {U : List Int} (hU : U.length = (a + 1).toNat) (hla : rd U a = 0) (x1 n : Int) (hn0 : 1 ≤ n) (hn1 : n ≤ 1001) : ∀ (d i k : Nat) (C : List Int), i + d = a.toNat → 12 * d + 60 < k → Cts a C →
    ∃ k', k ≤ k' + 12 * d + 3 ∧ spec_CountFewest.l1 k x1 U C n (U.length : Int) (i : Int) a b c l = spec_CountFewest.l0 k' x1 U (cntS a b c l U n d i C) (n + 1) a b c l
  | 0, i, k, C, h1, h3, h => by
    obtain ⟨k, rfl⟩ : ∃ m, k = m + 1 + 1 := ⟨k - 2, by omega⟩
    have := B.a1; have := B.a2
    have hia : (i : Int) = a := by omega
    refine ⟨k, by omega, ?_⟩
    simp only [spec_CountFewest.l1]
    rw [if_pos (by omega), if_pos (nat_nn i), if_pos (by omega), if_neg (by rw [hia, hla]; omega), w64_succ (by omega), if_neg (by omega), w64 (n + 1) (by omega) (by omega)]
    rfl
  | d + 1, i, k, C, h1, h3, h => by
    obtain ⟨k, rfl⟩ : ∃ m, k = m + 1 := ⟨k - 1, by omega⟩
    have := B.a1; have := B.a2; have := B.b1; have := B.b2
    simp only [spec_CountFewest.l1]
    rw [if_pos (by omega), if_pos (nat_nn i), if_pos (by omega)]
    unfold cntS
    by_cases hm : rd U (i : Int) = n
    · obtain ⟨k1, hk1, e1⟩ := spec_l2 B hU x1 n hn0 hn1 (U.length : Int) i (by omega) b.toNat 1 k C (by omega) (by omega) (by omega) h
      rw [show ((1 : Nat) : Int) = 1 from rfl] at e1
      have hC : Cts a (cntT U n (i : Int) (lands a c l (i : Int) 1 b.toNat) C) := h.T U n (i : Int) (by omega) (by omega) _ _ (fun t ht => by have := B.lands_lt (i : Int) (by omega) (by omega) t ht; omega)
      obtain ⟨k2, hk2, e2⟩ := spec_l1 B hU hla x1 n hn0 hn1 d (i + 1) k1 _ (by omega) (by omega) hC
      refine ⟨k2, by omega, ?_⟩
      rw [if_pos hm, if_pos hm, e1, e2]
    · obtain ⟨k2, hk2, e2⟩ := spec_l1 B hU hla x1 n hn0 hn1 d (i + 1) k C (by omega) (by omega) h
      refine ⟨k2, by omega, ?_⟩
      rw [if_neg hm, if_neg hm, w64_succ (by omega), e2]

theorem impl_l1 {a b c : Int} {l : List S27} (B : Board a b c l) {U : List Int} (hU : U.length = (a + 1).toNat) (x1 n : Int) (hn0 : 1 ≤ n) (hn1 : n ≤ 1001) : ∀ (d i k : Nat) (C : List Int), i + d = a.toNat → 12 * d + 60 < k → Cts a C →
    ∃ k', k ≤ k' + 12 * d + 3 ∧ impl_CountFewest.l1 k x1 U C n a (i : Int) a b c l = impl_CountFewest.l0 k' x1 U (cntS a b c l U n d i C) (n + 1) a b c l
  | 0, i, k, C, h1, h3, h => by
    obtain ⟨k, rfl⟩ : ∃ m, k = m + 1 := ⟨k - 1, by omega⟩
    have := B.a1; have := B.a2
    refine ⟨k, by omega, ?_⟩
    simp only [impl_CountFewest.l1]
    rw [if_neg (by omega), w64 (n + 1) (by omega) (by omega)]
    rfl
  | d + 1, i, k, C, h1, h3, h => by
    obtain ⟨k, rfl⟩ : ∃ m, k = m + 1 := ⟨k - 1, by omega⟩
    have := B.a1; have := B.a2; have := B.b1; have := B.b2
    simp only [impl_CountFewest.l1]
    rw [if_pos (by omega), if_pos (nat_nn i), if_pos (by omega)]
    unfold cntS
    have hL : ∀ t ∈ lands a c l (i : Int) 1 b.toNat, 0 ≤ t ∧ t ≤ a := fun t ht => by have := B.lands_lt (i : Int) (by omega) (by omega) t ht; omega
    by_cases hm : rd U (i : Int) = n
    · obtain ⟨k1, hk1, e1⟩ := impl_l2 B hU x1 n hn0 hn1 i (by omega) _ hL (by rw [lands_length]; omega) b.toNat 0 k C (by rw [lands_length]; omega) (by omega) h
      rw [show ((0 : Nat) : Int) = 0 from rfl, List.drop_zero] at e1
      have hC : Cts a (cntT U n (i : Int) (lands a c l (i : Int) 1 b.toNat) C) := h.T U n (i : Int) (by omega) (by omega) _ _ hL
      obtain ⟨k2, hk2, e2⟩ := impl_l1 B hU x1 n hn0 hn1 d (i + 1) k1 _ (by omega) (by omega) hC
      refine ⟨k2, by omega, ?_⟩
      rw [if_pos hm, if_pos hm, landings_eq B (i : Int) (by omega) (by omega) k (by omega)]
      simp only [Option.bind_some]
      rw [e1, e2]
    · obtain ⟨k2, hk2, e2⟩ := impl_l1 B hU x1 n hn0 hn1 d (i + 1) k C (by omega) (by omega) h
      refine ⟨k2, by omega, ?_⟩
      rw [if_neg hm, if_neg hm, w64_succ (by omega), e2]

theorem both_l0 {a b c : Int} {l : List S27} (B : Board a b c l) {U : List Int} (hU : Far a b c l U) (s : Int) (s0 : 0 ≤ s) (s1 : s ≤ a) : ∀ (d : Nat) (n : Int) (C : List Int), 1 ≤ n → n + d = rd U s + 1 → Cts a C →
    ∃ r, ∀ k, 1400 * d + 100 ≤ k → spec_CountFewest.l0 k s U C n a b c l = some r ∧ impl_CountFewest.l0 k s U C n a b c l = some r
  | 0, n, C, h1, h2, h => by
    have hl := hU.len; have hCl := h.len
    refine ⟨if rd C s > 1000000000000000 then (0, false) else (rd C s, true), fun k hk => ?_⟩
    obtain ⟨k, rfl⟩ : ∃ m, k = m + 1 := ⟨k - 1, by omega⟩
    simp only [spec_CountFewest.l0, impl_CountFewest.l0]
    have q1 : s < (U.length : Int) := by omega
    have q2 : s < (C.length : Int) := by omega
    have q3 : ¬ n ≤ rd U s := by omega
    by_cases hx : rd C s > 1000000000000000
    · refine ⟨?_, ?_⟩ <;> rw [if_pos s0, if_pos q1, if_neg q3, if_pos q2, if_pos hx, if_pos hx]
    · refine ⟨?_, ?_⟩ <;> rw [if_pos s0, if_pos q1, if_neg q3, if_pos q2, if_neg hx, if_neg hx]
  | d + 1, n, C, h1, h2, h => by
    have hl := hU.len; have := hU.hi s s0 s1; have := B.a1; have := B.a2
    obtain ⟨r, hr⟩ := both_l0 B hU s s0 s1 d (n + 1) _ (by omega) (by omega) (Cts.S B U n a.toNat 0 C (by omega) h)
    refine ⟨r, fun k hk => ?_⟩
    obtain ⟨k, rfl⟩ : ∃ m, k = m + 1 := ⟨k - 1, by omega⟩
    simp only [spec_CountFewest.l0, impl_CountFewest.l0]
    have q1 : s < (U.length : Int) := by omega
    obtain ⟨k1, hk1, e1⟩ := spec_l1 B hl hU.last s n h1 (by omega) a.toNat 0 k C (by omega) (by omega) h
    obtain ⟨k2, hk2, e2⟩ := impl_l1 B hl s n h1 (by omega) a.toNat 0 k C (by omega) (by omega) h
    rw [show ((0 : Nat) : Int) = 0 from rfl] at e1 e2
    rw [if_pos s0, if_pos q1, if_pos (show n ≤ rd U s by omega), if_pos s0, if_pos q1, if_pos (show n ≤ rd U s by omega), e1, e2]
    exact ⟨(hr k1 (by omega)).1, (hr k2 (by omega)).2⟩

theorem CountFewest_same (a b c : Int) (l : List S27) (s : Int) : ∃ (K : Nat) (r : Int × Bool), ∀ k, K ≤ k → spec_CountFewest.f k a b c l s = some r ∧ impl_CountFewest.f k a b c l s = some r := by
  by_cases h : (good a b c l && sqr a l s) = true
  · have h' := h
    simp only [Bool.and_eq_true, decide_eq_true_eq] at h'
    have B := Board.of_good h'.1
    have := B.a1; have := B.a2
    obtain ⟨s0, s1⟩ := sqr_le h'.2
    obtain ⟨U, hU, hf⟩ := far_eq B
    have hl := hU.len
    have hh := hU.hi s s0 s1
    have q1 : s < (U.length : Int) := by omega
    have hrep : (List.replicate (a + 1).toNat (0 : Int)).length = (a + 1).toNat := List.length_replicate
    have q2 : a < ((List.replicate (a + 1).toNat (0 : Int)).length : Int) := by rw [hrep]; omega
    have hset : ∀ j : Int, 0 ≤ j → rd ((List.replicate (a + 1).toNat (0 : Int)).set a.toNat 1) j = if j = a then 1 else rd (List.replicate (a + 1).toNat (0 : Int)) j := fun j hj => by
      rw [rd_set hj (by rw [hrep]; omega), show ((a.toNat : Nat) : Int) = a by omega]
    have hz : ∀ j : Int, 0 ≤ j → j ≤ a → rd (List.replicate (a + 1).toNat (0 : Int)) j = 0 := fun j j0 j1 => by
      rw [show j = (j.toNat : Int) by omega, rd_at (by rw [hrep]; omega)]
      simp
    have hC : Cts a ((List.replicate (a + 1).toNat (0 : Int)).set a.toNat 1) := by
      refine ⟨by rw [List.length_set, hrep], fun i i0 i1 => ?_, fun i i0 i1 => ?_⟩
      · rw [hset i i0, hz i i0 i1]; split <;> omega
      · rw [hset i i0, hz i i0 i1]; split <;> omega
    by_cases hn : rd U s < 0
    · refine ⟨700000, (0, true), fun k hk => ?_⟩
      unfold spec_CountFewest.f impl_CountFewest.f
      rw [sqAsked_eq a b c l s k (by omega), areSquares_eq a b c l _ k (by omega), one_square, h, (hf k (by omega)).1, (hf k (by omega)).2]
      simp only [Option.bind_some]
      rw [if_pos trivial, if_pos trivial, if_pos s0, if_pos s0, if_pos q1, if_pos q1, if_pos hn, if_pos hn]
      exact ⟨rfl, rfl⟩
    · obtain ⟨r, hr⟩ := both_l0 B hU s s0 s1 (rd U s).toNat 1 _ (by omega) (by omega) hC
      refine ⟨2100000, r, fun k hk => ?_⟩
      unfold spec_CountFewest.f impl_CountFewest.f
      rw [sqAsked_eq a b c l s k (by omega), areSquares_eq a b c l _ k (by omega), one_square, h, (hf k (by omega)).1, (hf k (by omega)).2]
      simp only [Option.bind_some]
      have w1 : (0 : Int) ≤ a + 1 := by omega
      have w2 : (a + 1).toNat ≤ 35184372088832 := by omega
      have w3 : (0 : Int) ≤ a := by omega
      rw [if_pos trivial, if_pos trivial, w64 (a + 1) (by omega) (by omega)]
      refine ⟨?_, ?_⟩
      · rw [if_pos s0, if_pos q1, if_neg hn, if_pos w1, if_pos w2, if_pos w3, if_pos q2]
        exact (hr k (by omega)).1
      · rw [if_pos s0, if_pos q1, if_neg hn, if_pos w1, if_pos w2, if_pos w3, if_pos q2]
        exact (hr k (by omega)).2
  · refine ⟨100, (0, false), fun k hk => ?_⟩
    unfold spec_CountFewest.f impl_CountFewest.f
    rw [sqAsked_eq a b c l s k (by omega), areSquares_eq a b c l _ k (by omega), one_square]
    simp only [Option.bind_some]
    rw [if_neg h, if_neg h]
    exact ⟨rfl, rfl⟩

attribute [local congr] bind_weak in
theorem FnExactCountFewest : laws_FnExactCountFewest.Pure := by
  intro a b c l s wa wb wc hm hw w_s
  by_cases hlen : l.length ≤ 1048576
  case neg =>
    refine ⟨0, ?_⟩
    unfold laws_FnExactCountFewest.f
    rw [szBoard_eq a b c l _ (by omega) (by omega) hm]
    simp only [Option.bind_some]
    rw [if_pos (by rw [if_neg (by omega)]; omega)]
  obtain ⟨K, r, hr⟩ := CountFewest_same a b c (l.map conv) s
  obtain ⟨n, hn⟩ : ∃ n, n = 2097300 + K := ⟨_, rfl⟩
  have h0 := fun k hk => (hr k hk).1
  have h1 := fun k hk => (hr k hk).2
  refine ⟨n + 4, ?_⟩
  have hT := fun k hk => toBoard_eq a b c l hlen k hk
  have hE := fun k hk => eqBoard_same a b c (l.map conv) (by rw [List.length_map]; omega) k hk
  have hlm : (l.map conv).length = l.length := List.length_map ..
  have hz := szBoard_eq a b c l 1048576 (by omega) (by omega) hm
  have hz2 : ((if (l.length : Int) ≤ 1048576 then 1048576 - (l.length : Int) else -1) < 0) = False := eq_false (by rw [if_pos (by omega)]; omega)
  generalize l.map conv = L at *
  unfold laws_FnExactCountFewest.f
  simp (disch := omega) only [↓reduceIte, hz, hz2, Option.bind_some, bne_self_eq_false, Bool.false_eq_true, decide_true, laws_FnExactCountFewest.j0, hT, h0, h1, hE]


end Go.Proofs.Ytkobjjadojpjfaa.Pure
