/- Proved here: the squares that a token reaches, as the program and as the reference find them; the conditions are a board's own bounds. -/
import Derived.Test.YtkobjjadojpjfaaPL3
import Derived.Test.YtkobjjadojpjfaaFImplBoardReached
import Derived.Test.YtkobjjadojpjfaaFSpecSqReached
namespace Go.Proofs.Ytkobjjadojpjfaa.Pr
open Go.RowKit Go.Proofs.YtkobjjadojpjfaaW.PrintWords Go.Proofs.YtkobjjadojpjfaaW.PrintLast Go.Proofs.YtkobjjadojpjfaaW.PrintMore
set_option linter.unusedVariables false
set_option linter.unusedSimpArgs false

theorem Board.lands_in {a b c : Int} {l : List S27} (B : Board a b c l) (s : Int) (hs0 : 0 ≤ s) (hs1 : s ≤ a) : ∀ (d i : Nat), (i + d : Nat) = b + 1 → 1 ≤ i → ∀ x ∈ lands a c l s i d, 0 ≤ x ∧ x ≤ a
  | 0, i, h1, h2, x, hx => by simp [lands] at hx
  | d + 1, i, h1, h2, x, hx => by
    have := B.b2; have := B.a1
    rcases List.mem_cons.mp hx with rfl | hx
    · unfold thr
      split
      · omega
      · split
        · exact ⟨(B.beg_le _ (by omega) (by omega)).1, (B.beg_le _ (by omega) (by omega)).2.1⟩
        · split
          · omega
          · split
            · rename_i h; exact ⟨(B.beg_le _ h.2 (by omega)).1, (B.beg_le _ h.2 (by omega)).2.1⟩
            · omega
    · exact B.lands_in s hs0 hs1 d (i + 1) (by omega) (by omega) x hx

def visit : List Int → List Bool → List Int → List Bool × List Int
  | [], sn, q => (sn, q)
  | t :: ts, sn, q => if rdOf false sn t = true then visit ts sn q else visit ts (sn.set t.toNat true) (q ++ [t])

/-- what has been seen, and the list of it -/
structure Seen (a : Int) (sn : List Bool) (q : List Int) : Prop where
  len : sn.length = (a + 1).toNat
  cnt : q.length = sn.count true
  mem : ∀ x ∈ q, 0 ≤ x ∧ x ≤ a

theorem Seen.le {a : Int} {sn : List Bool} {q : List Int} (h : Seen a sn q) : q.length ≤ (a + 1).toNat := by
  rw [h.cnt, ← h.len]; exact List.count_le_length

theorem rdOf_at {l : List Bool} {i : Nat} (h : i < l.length) : rdOf false l (i : Int) = l[i] := by
  simp [rdOf, List.getD, h]

theorem Seen.add {a : Int} {sn : List Bool} {q : List Int} (h : Seen a sn q) (t : Int) (h0 : 0 ≤ t) (h1 : t ≤ a) (hn : ¬ rdOf false sn t = true) : Seen a (sn.set t.toNat true) (q ++ [t]) := by
  have hi : t.toNat < sn.length := by rw [h.len]; omega
  have e : rdOf false sn t = sn[t.toNat] := by rw [← rdOf_at hi, show ((t.toNat : Nat) : Int) = t by omega]
  have hf : sn[t.toNat] = false := by
    rw [← e]
    cases hx : rdOf false sn t with
    | false => rfl
    | true => exact absurd hx hn
  refine ⟨by rw [List.length_set]; exact h.len, ?_, fun x hx => ?_⟩
  · rw [List.count_set hi, hf, List.length_append, h.cnt]
    simp
  · rcases List.mem_append.mp hx with hx | hx
    · exact h.mem x hx
    · rw [List.mem_singleton.mp hx]; exact ⟨h0, h1⟩

theorem Seen.visit {a : Int} : ∀ (ts : List Int) {sn : List Bool} {q : List Int}, Seen a sn q → (∀ t ∈ ts, 0 ≤ t ∧ t ≤ a) → Seen a (Pr.visit ts sn q).1 (Pr.visit ts sn q).2
  | [], sn, q, h, ht => h
  | t :: ts, sn, q, h, ht => by
    have h1 := ht t (List.mem_cons_self ..)
    have h2 : ∀ y ∈ ts, 0 ≤ y ∧ y ≤ a := fun y hy => ht y (List.mem_cons_of_mem _ hy)
    unfold Pr.visit
    by_cases c : rdOf false sn t = true
    · rw [if_pos c]; exact Seen.visit ts h h2
    · rw [if_neg c]; exact Seen.visit ts (h.add t h1.1 h1.2 c) h2

theorem reached_l1 {a b c : Int} {l : List S27} (B : Board a b c l) (x7 : Int) (ts : List Int) (hts : ∀ t ∈ ts, 0 ≤ t ∧ t ≤ a) (htl : ts.length ≤ 8) (K : Nat) (G : List Bool → List Int → Option (List Bool))
    (hc : ∀ k sn q, K ≤ k → Seen a sn q → impl_Board_reached.l0 k sn q (wrap64 (x7 + 1)) a b c l = G sn q) : ∀ (d j k : Nat) (sn : List Bool) (q : List Int), j + d = ts.length → K + d < k → Seen a sn q →
    impl_Board_reached.l1 k sn q x7 ts (ts.length : Int) (j : Int) a b c l = G (visit (ts.drop j) sn q).1 (visit (ts.drop j) sn q).2
  | 0, j, k, sn, q, h1, h2, h3 => by
    obtain ⟨k, rfl⟩ : ∃ m, k = m + 1 := ⟨k - 1, by omega⟩
    simp only [impl_Board_reached.l1]
    rw [if_neg (by omega), hc k sn q (by omega) h3, List.drop_of_length_le (by omega)]
    rfl
  | d + 1, j, k, sn, q, h1, h2, h3 => by
    obtain ⟨k, rfl⟩ : ∃ m, k = m + 1 := ⟨k - 1, by omega⟩
    have hj : j < ts.length := by omega
    have ht := hts ts[j] (List.getElem_mem hj)
    have := B.a2; have := h3.le; have := h3.len
    simp only [impl_Board_reached.l1]
    rw [if_pos (nat_lt hj), if_pos (nat_nn j), if_pos (nat_lt hj), rd_at hj, if_pos ht.1, if_pos (by omega), w64_succ (by omega), List.drop_eq_getElem_cons hj]
    unfold visit
    by_cases c : rdOf false sn ts[j] = true
    · rw [if_pos c, if_pos c]
      exact reached_l1 B x7 ts hts htl K G hc d (j + 1) k _ _ (by omega) (by omega) h3
    · rw [if_neg c, if_neg c, if_pos (by omega)]
      exact reached_l1 B x7 ts hts htl K G hc d (j + 1) k _ _ (by omega) (by omega) (h3.add _ ht.1 ht.2 c)

theorem sqReached_l1 {a b c : Int} {l : List S27} (B : Board a b c l) (i : Nat) (K : Nat) (hK : 40 ≤ K) (s : Int) (hs0 : 0 ≤ s) (hs1 : s ≤ a) (G : List Bool → List Int → Option (List Bool))
    (hc : ∀ k sn q, K ≤ k → Seen a sn q → spec_sqReached.l0 k sn q (wrap64 ((i : Int) + 1)) a b c l = G sn q) : ∀ (d j k : Nat) (sn : List Bool) (q : List Int), (j + d : Nat) = b + 1 → 1 ≤ j → K + d < k → Seen a sn q → i < q.length → rd q (i : Int) = s →
    spec_sqReached.l1 k sn q (i : Int) (j : Int) a b c l = G (visit (lands a c l s j d) sn q).1 (visit (lands a c l s j d) sn q).2
  | 0, j, k, sn, q, h1, h1', h2, h3, hi, hs => by
    obtain ⟨k, rfl⟩ : ∃ m, k = m + 1 := ⟨k - 1, by omega⟩
    simp only [spec_sqReached.l1]
    rw [if_neg (by omega), hc k sn q (by omega) h3]
    rfl
  | d + 1, j, k, sn, q, h1, h1', h2, h3, hi, hs => by
    obtain ⟨k, rfl⟩ : ∃ m, k = m + 1 := ⟨k - 1, by omega⟩
    have := B.b2; have := B.a1; have := B.a2; have := h3.le; have := h3.len
    have ht := B.lands_in s hs0 hs1 (d + 1) j (by omega) h1' (thr a c l s (j : Int)) (List.mem_cons_self ..)
    simp only [spec_sqReached.l1]
    rw [if_pos (by omega), if_pos (nat_nn i), if_pos (by omega), hs, sqThrow_eq B s j hs0 hs1 (by omega) (by omega) k (by omega)]
    simp only [Option.bind_some]
    rw [if_pos ht.1, if_pos (by omega), w64_succ (by omega)]
    unfold lands visit
    by_cases c1 : rdOf false sn (thr a c l s (j : Int)) = true
    · rw [if_pos c1, if_pos c1]
      exact sqReached_l1 B i K hK s hs0 hs1 G hc d (j + 1) k _ _ (by omega) (by omega) (by omega) h3 hi hs
    · rw [if_neg c1, if_neg c1, if_pos (by omega)]
      refine sqReached_l1 B i K hK s hs0 hs1 G hc d (j + 1) k _ _ (by omega) (by omega) (by omega) (h3.add _ ht.1 ht.2 c1) (by rw [List.length_append]; omega) ?_
      rw [← hs, rd_at hi, rd_at (by rw [List.length_append]; omega), List.getElem_append_left hi]

theorem reached_l0 {a b c : Int} {l : List S27} (B : Board a b c l) : ∀ (d i : Nat) (sn : List Bool) (q : List Int), i + d = (a + 1).toNat → Seen a sn q →
    ∃ r : List Bool, r.length = (a + 1).toNat ∧ ∀ k, 12 * d + 60 ≤ k → spec_sqReached.l0 k sn q (i : Int) a b c l = some r ∧ impl_Board_reached.l0 k sn q (i : Int) a b c l = some r
  | 0, i, sn, q, h1, h2 => by
    have := h2.le
    refine ⟨sn, h2.len, fun k hk => ?_⟩
    obtain ⟨k, rfl⟩ : ∃ m, k = m + 1 := ⟨k - 1, by omega⟩
    simp only [spec_sqReached.l0, impl_Board_reached.l0]
    rw [if_neg (by omega), if_neg (by omega)]
    exact ⟨rfl, rfl⟩
  | d + 1, i, sn, q, h1, h2 => by
    have := h2.le; have := B.a1; have := B.a2; have := B.b1; have := B.b2
    by_cases hi : i < q.length
    · have hm := h2.mem _ (List.getElem_mem hi)
      have hL : ∀ t ∈ lands a c l q[i] 1 b.toNat, 0 ≤ t ∧ t ≤ a := fun t ht => B.lands_in q[i] hm.1 hm.2 b.toNat 1 (by omega) (by omega) t ht
      have hv := h2.visit _ hL
      obtain ⟨r, hr1, hr2⟩ := reached_l0 B d (i + 1) _ _ (by omega) hv
      refine ⟨r, hr1, fun k hk => ?_⟩
      obtain ⟨k, rfl⟩ : ∃ m, k = m + 1 := ⟨k - 1, by omega⟩
      simp only [spec_sqReached.l0, impl_Board_reached.l0]
      rw [if_pos (by omega), if_pos (by omega), if_pos (nat_nn i), rd_at hi, landings_eq B q[i] hm.1 hm.2 k (by omega)]
      simp only [Option.bind_some]
      have g1 := sqReached_l1 B i (12 * d + 60) (by omega) q[i] hm.1 hm.2 (fun sn q => spec_sqReached.l0 (12 * d + 60) sn q ((i + 1 : Nat) : Int) a b c l) (fun k sn q hk hs => by
        obtain ⟨r, _, hr⟩ := reached_l0 B d (i + 1) sn q (by omega) hs
        rw [w64_succ (by omega), (hr k hk).1, (hr _ (Nat.le_refl _)).1]) b.toNat 1 k sn q (by omega) (by omega) (by omega) h2 hi (rd_at hi)
      have g2 := reached_l1 B (i : Int) (lands a c l q[i] 1 b.toNat) hL (by rw [lands_length]; omega) (12 * d + 60) (fun sn q => impl_Board_reached.l0 (12 * d + 60) sn q ((i + 1 : Nat) : Int) a b c l) (fun k sn q hk hs => by
        obtain ⟨r, _, hr⟩ := reached_l0 B d (i + 1) sn q (by omega) hs
        rw [w64_succ (by omega), (hr k hk).2, (hr _ (Nat.le_refl _)).2]) b.toNat 0 k sn q (by rw [lands_length]; omega) (by omega) h2
      rw [show ((1 : Nat) : Int) = 1 from rfl] at g1
      rw [show ((0 : Nat) : Int) = 0 from rfl, List.drop_zero] at g2
      rw [g1, g2]
      exact hr2 _ (Nat.le_refl _)
    · refine ⟨sn, h2.len, fun k hk => ?_⟩
      obtain ⟨k, rfl⟩ : ∃ m, k = m + 1 := ⟨k - 1, by omega⟩
      simp only [spec_sqReached.l0, impl_Board_reached.l0]
      rw [if_neg (by omega), if_neg (by omega)]
      exact ⟨rfl, rfl⟩

theorem reached_eq {a b c : Int} {l : List S27} (B : Board a b c l) (s : Int) (hs0 : 0 ≤ s) (hs1 : s ≤ a) : ∃ r : List Bool, r.length = (a + 1).toNat ∧ ∀ k, 1400 ≤ k → spec_sqReached.f k a b c l s = some r ∧ impl_Board_reached.f k a b c l s = some r := by
  have := B.a1; have := B.a2
  have hS : Seen a ((List.replicate (a + 1).toNat false).set s.toNat true) [s] := by
    have h0 : Seen a (List.replicate (a + 1).toNat false) [] := ⟨by simp, by simp [List.count_replicate], fun x hx => by simp at hx⟩
    refine h0.add s hs0 hs1 ?_
    rw [show s = (s.toNat : Int) by omega, rdOf_at (by simp; omega)]
    simp
  obtain ⟨r, h1, h2⟩ := reached_l0 B (a + 1).toNat 0 _ _ (by omega) hS
  refine ⟨r, h1, fun k hk => ?_⟩
  unfold spec_sqReached.f impl_Board_reached.f
  rw [w64 (a + 1) (by omega) (by omega), if_pos (by omega), if_pos (by omega), if_pos (by omega), if_pos (by omega)]
  simp only [Option.bind_some]
  rw [if_pos hs0, if_pos (by rw [List.length_replicate]; omega), if_pos hs0, if_pos (by rw [List.length_replicate]; omega)]
  exact h2 k (by omega)

end Go.Proofs.Ytkobjjadojpjfaa.Pr
