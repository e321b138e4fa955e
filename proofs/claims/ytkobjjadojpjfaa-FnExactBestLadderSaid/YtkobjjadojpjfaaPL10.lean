/- Proved here: the reference's table of fewest throws is the program's one; the conditions are a board's own bounds. -/
import Derived.Test.YtkobjjadojpjfaaPL9
import Derived.Test.YtkobjjadojpjfaaFSpecSqFar
namespace Go.Proofs.Ytkobjjadojpjfaa.Pr
open Go.RowKit Go.Proofs.YtkobjjadojpjfaaW.PrintWords Go.Proofs.YtkobjjadojpjfaaW.PrintLast Go.Proofs.YtkobjjadojpjfaaW.PrintMore
set_option linter.unusedVariables false
set_option linter.unusedSimpArgs false

/-! #### the squares behind each square -/
theorem rdL_set {P : List (List Int)} {i : Nat} {v : List Int} {j : Int} (hj : 0 ≤ j) (hi : i < P.length) : rd_L3 (P.set i v) j = if j = (i : Int) then v else rd_L3 P j := by
  obtain ⟨m, rfl⟩ := Int.eq_ofNat_of_zero_le hj
  simp only [rd_L3, List.getD, Int.toNat_natCast]
  by_cases h : m = i
  · subst h
    rw [if_pos rfl, List.getElem?_set_self hi]
    rfl
  · rw [if_neg (by omega), List.getElem?_set_ne (by omega)]

theorem rdL_rep (n : Nat) (j : Int) : rd_L3 (List.replicate n []) j = [] := by
  simp only [rd_L3, List.getD, List.getElem?_replicate]
  split <;> rfl

/-- the lists of squares behind each square, up to a square and a face -/
structure Back (a b c : Int) (l : List S27) (i j : Nat) (P : List (List Int)) : Prop where
  len : P.length = (a + 1).toNat
  row : ∀ t : Int, 0 ≤ t → t ≤ a → (rd_L3 P t).length ≤ 9 * i + j
  mem : ∀ t p : Int, 0 ≤ t → t ≤ a → (p ∈ rd_L3 P t ↔ (p < i ∧ Pred a b c l t p) ∨ (p = i ∧ p < a ∧ sqr a l p = true ∧ ∃ f : Int, 1 ≤ f ∧ f < j ∧ thr a c l p f = t))

theorem Back.done {a b c : Int} {l : List S27} (B : Board a b c l) {i j : Nat} {P : List (List Int)} (H : Back a b c l i j P) (hj : (j : Int) = b + 1 ∨ sqr a l (i : Int) = false) (hj9 : j ≤ 9) : Back a b c l (i + 1) 1 P := by
  refine ⟨H.len, fun t t0 t1 => by have := H.row t t0 t1; omega, fun t p t0 t1 => ?_⟩
  rw [H.mem t p t0 t1]
  unfold Pred
  constructor
  · rintro (⟨h1, h2⟩ | ⟨h1, h2, h3, f, f1, f2, f3⟩)
    · exact .inl ⟨by omega, h2⟩
    · refine .inl ⟨by omega, by omega, h2, h3, f, f1, ?_, f3⟩
      rcases hj with hj | hj
      · omega
      · rw [h1, hj] at h3; cases h3
  · rintro (⟨h1, h2, h3, h4, f, f1, f2, f3⟩ | ⟨h1, h2, h3, f, f1, f2, f3⟩)
    · by_cases e : p = (i : Int)
      · refine .inr ⟨e, h3, h4, f, f1, ?_, f3⟩
        rcases hj with hj | hj
        · omega
        · rw [e, hj] at h4; cases h4
      · exact .inl ⟨by omega, h2, h3, h4, f, f1, f2, f3⟩
    · omega

theorem sqFar_l2 {a b c : Int} {l : List S27} (B : Board a b c l) (T : List Int) (i : Nat) (hi : (i : Int) < a) : ∀ (d j k : Nat) (P : List (List Int)), (j + d : Nat) = b + 1 → 1 ≤ j → d + 40 < k → Back a b c l i j P →
    ∃ P', Back a b c l (i + 1) 1 P' ∧ ∃ k', k ≤ k' + d + 1 ∧ spec_sqFar.l2 k T P (i : Int) (j : Int) a b c l = spec_sqFar.l1 k' T P' ((i + 1 : Nat) : Int) a b c l
  | 0, j, k, P, h1, h2, h3, H => by
    obtain ⟨k, rfl⟩ : ∃ m, k = m + 1 := ⟨k - 1, by omega⟩
    have := B.a2; have := B.b2
    refine ⟨P, H.done B (.inl (by omega)) (by omega), k, by omega, ?_⟩
    simp only [spec_sqFar.l2]
    rw [if_neg (by omega), w64_succ (by omega)]
  | d + 1, j, k, P, h1, h2, h3, H => by
    obtain ⟨k, rfl⟩ : ∃ m, k = m + 1 := ⟨k - 1, by omega⟩
    have := B.a1; have := B.a2; have := B.b2
    simp only [spec_sqFar.l2]
    rw [if_pos (by omega), sqSquare_eq B (i : Int) k (by omega)]
    simp only [Option.bind_some]
    cases hs : sqr a l (i : Int) with
    | false =>
      refine ⟨P, H.done B (.inr hs) (by omega), k, by omega, ?_⟩
      rw [if_neg (by decide), w64_succ (by omega)]
    | true =>
      have hq := sqr_le (B.thr_sqr (i : Int) (j : Int) hs (by omega) (by omega))
      have hr := H.row _ hq.1 hq.2
      have hset : ∀ t : Int, 0 ≤ t → rd_L3 (P.set (thr a c l (i : Int) (j : Int)).toNat (rd_L3 P (thr a c l (i : Int) (j : Int)) ++ [(i : Int)])) t = if t = thr a c l (i : Int) (j : Int) then rd_L3 P (thr a c l (i : Int) (j : Int)) ++ [(i : Int)] else rd_L3 P t := fun t ht => by
        rw [rdL_set ht (by rw [H.len]; omega), show (((thr a c l (i : Int) (j : Int)).toNat : Nat) : Int) = thr a c l (i : Int) (j : Int) by omega]
      have H2 : Back a b c l i (j + 1) (P.set (thr a c l (i : Int) (j : Int)).toNat (rd_L3 P (thr a c l (i : Int) (j : Int)) ++ [(i : Int)])) := by
        refine ⟨by rw [List.length_set]; exact H.len, fun t t0 t1 => ?_, fun t p t0 t1 => ?_⟩
        · rw [hset t t0]; split
          · rw [List.length_append, List.length_singleton]; omega
          · have := H.row t t0 t1; omega
        · rw [hset t t0]
          by_cases e : t = thr a c l (i : Int) (j : Int)
          · rw [if_pos e, ← e, List.mem_append, List.mem_singleton, H.mem t p t0 t1]
            constructor
            · rintro ((h | ⟨g1, g2, g3, f, f1, f2, f3⟩) | h)
              · exact .inl h
              · exact .inr ⟨g1, g2, g3, f, f1, by omega, f3⟩
              · exact .inr ⟨h, by omega, by rw [h]; exact hs, j, by omega, by omega, by rw [h]; exact e.symm⟩
            · rintro (h | ⟨g1, g2, g3, f, f1, f2, f3⟩)
              · exact .inl (.inl h)
              · exact .inr g1
          · rw [if_neg e, H.mem t p t0 t1]
            constructor
            · rintro (h | ⟨g1, g2, g3, f, f1, f2, f3⟩)
              · exact .inl h
              · exact .inr ⟨g1, g2, g3, f, f1, by omega, f3⟩
            · rintro (h | ⟨g1, g2, g3, f, f1, f2, f3⟩)
              · exact .inl h
              · refine .inr ⟨g1, g2, g3, f, f1, ?_, f3⟩
                by_cases ef : f = (j : Int)
                · rw [ef, g1] at f3; exact absurd f3.symm e
                · omega
      obtain ⟨P', hP, k', hk', e⟩ := sqFar_l2 B T i hi d (j + 1) k _ (by omega) (by omega) (by omega) H2
      refine ⟨P', hP, k', by omega, ?_⟩
      rw [if_pos rfl, sqThrow_eq B (i : Int) (j : Int) (by omega) (by omega) (by omega) (by omega) k (by omega)]
      simp only [Option.bind_some]
      rw [if_pos hq.1, if_pos (by rw [H.len]; omega), if_pos (by omega), w64_succ (by omega)]
      exact e

theorem sqFar_l4 {a b c : Int} {l : List S27} (B : Board a b c l) (P : List (List Int)) (h : Nat) (s : Int) (row : List Int) (hrow : ∀ p ∈ row, Pred a b c l s p) (hrl : row.length ≤ 2000) : ∀ (d j k : Nat) (T q : List Int), j + d = row.length → d < k → Bq a b c l T q h → h < q.length → rd q (h : Int) = s →
    ∃ k', k ≤ k' + d + 1 ∧ spec_sqFar.l4 k T P q (h : Int) row (row.length : Int) (j : Int) = spec_sqFar.l3 k' (bfsVisit (rd T s + 1) (row.drop j) T q).1 P (bfsVisit (rd T s + 1) (row.drop j) T q).2 ((h + 1 : Nat) : Int)
  | 0, j, k, T, q, h1, h2, H, hh, hs => by
    obtain ⟨k, rfl⟩ : ∃ m, k = m + 1 := ⟨k - 1, by omega⟩
    have := B.a2; have := H.cnt
    refine ⟨k, by omega, ?_⟩
    simp only [spec_sqFar.l4]
    rw [if_neg (by omega), List.drop_of_length_le (by omega), w64_succ (by omega)]
    rfl
  | d + 1, j, k, T, q, h1, h2, H, hh, hs => by
    obtain ⟨k, rfl⟩ : ∃ m, k = m + 1 := ⟨k - 1, by omega⟩
    have := B.a1; have := B.a2; have := H.cnt; have hTl := H.len
    have hj : j < row.length := by omega
    obtain ⟨p0, p1, p2, f, f1, f2, pt⟩ := hrow row[j] (List.getElem_mem hj)
    have hsm : s ∈ q := by rw [← hs]; exact rd_mem hh
    have hsv := H.mem s hsm
    have hss := H.small s hsm
    simp only [spec_sqFar.l4]
    rw [if_pos (nat_lt hj), if_pos (nat_nn j), if_pos (nat_lt hj), rd_at hj, if_pos p0, if_pos (by omega), w64_succ (by omega), List.drop_eq_getElem_cons hj]
    unfold bfsVisit
    by_cases hn : rd T row[j] < 0
    · rw [if_pos hn, if_pos hn, if_pos (nat_nn h), if_pos (nat_lt hh), hs, if_pos hsv.1, if_pos (by omega), if_pos (by omega), w64 (rd T s + 1) (by omega) (by omega)]
      have H2 := H.add B hh row[j] f p0 p1 p2 f1 f2 (by rw [pt, hs]) hn
      rw [hs] at H2
      have e2 : rd (T.set row[j].toNat (rd T s + 1)) s = rd T s := by
        rw [rd_set hsv.1 (by omega), if_neg (fun e => by rw [show ((row[j].toNat : Nat) : Int) = row[j] by omega] at e; rw [e] at hsv; omega)]
      obtain ⟨k', hk', e⟩ := sqFar_l4 B P h s row hrow hrl d (j + 1) k _ _ (by omega) (by omega) H2 (by rw [List.length_append]; omega) (by rw [rd_append_left hh]; exact hs)
      rw [e2] at e
      exact ⟨k', by omega, e⟩
    · rw [if_neg hn, if_neg hn]
      obtain ⟨k', hk', e⟩ := sqFar_l4 B P h s row hrow hrl d (j + 1) k T q (by omega) (by omega) H hh hs
      exact ⟨k', by omega, e⟩

theorem sqFar_l3 {a b c : Int} {l : List S27} (B : Board a b c l) (P : List (List Int)) (hPl : P.length = (a + 1).toNat) (hP : ∀ t p : Int, 0 ≤ t → t ≤ a → (p ∈ rd_L3 P t ↔ Pred a b c l t p)) (hPr : ∀ t : Int, 0 ≤ t → t ≤ a → (rd_L3 P t).length ≤ 2000) : ∀ (d h k : Nat) (T q : List Int), h + d = (a + 1).toNat → 3000 * d + 10 ≤ k → Bq a b c l T q h →
    ∃ U, Far a b c l U ∧ spec_sqFar.l3 k T P q (h : Int) = some U
  | 0, h, k, T, q, h1, h2, H => by
    obtain ⟨k, rfl⟩ : ∃ m, k = m + 1 := ⟨k - 1, by omega⟩
    have := H.cnt
    refine ⟨T, H.far B (by omega), ?_⟩
    simp only [spec_sqFar.l3]
    rw [if_neg (by omega)]
  | d + 1, h, k, T, q, h1, h2, H => by
    obtain ⟨k, rfl⟩ : ∃ m, k = m + 1 := ⟨k - 1, by omega⟩
    have := H.cnt
    simp only [spec_sqFar.l3]
    by_cases hh : h < q.length
    · have hm := H.mem _ (rd_mem hh)
      rw [if_pos (nat_lt hh), if_pos (nat_nn h), if_pos hm.1, if_pos (by omega)]
      have hN := H.next B hh (rd_L3 P (rd q (h : Int))) (fun p => hP _ p hm.1 hm.2.1)
      have hr := hPr _ hm.1 hm.2.1
      obtain ⟨k', hk', e⟩ := sqFar_l4 B P h _ (rd_L3 P (rd q (h : Int))) (fun p hp => (hP _ p hm.1 hm.2.1).mp hp) hr (rd_L3 P (rd q (h : Int))).length 0 k T q (by omega) (by omega) H hh rfl
      rw [List.drop_zero, show ((0 : Nat) : Int) = 0 from rfl] at e
      rw [e]
      exact sqFar_l3 B P hPl hP hPr d (h + 1) k' _ _ (by omega) (by omega) hN
    · refine ⟨T, H.far B (by omega), ?_⟩
      rw [if_neg (by omega)]

theorem sqFar_l1 {a b c : Int} {l : List S27} (B : Board a b c l) (T : List Int) (hT : Bq a b c l T [a] 0) : ∀ (d i k : Nat) (P : List (List Int)), i + d = a.toNat → 20 * d + 400000 ≤ k → Back a b c l i 1 P →
    ∃ U, Far a b c l U ∧ spec_sqFar.l1 k T P (i : Int) a b c l = some U
  | 0, i, k, P, h1, h2, H => by
    obtain ⟨k, rfl⟩ : ∃ m, k = m + 1 := ⟨k - 1, by omega⟩
    have := B.a1; have := B.a2
    simp only [spec_sqFar.l1]
    rw [if_neg (by omega)]
    refine sqFar_l3 B P H.len (fun t p t0 t1 => ?_) (fun t t0 t1 => by have := H.row t t0 t1; omega) (a + 1).toNat 0 k T [a] (by omega) (by omega) hT
    rw [H.mem t p t0 t1]
    constructor
    · rintro (⟨_, h⟩ | ⟨_, _, _, f, f1, f2, _⟩)
      · exact h
      · omega
    · intro h
      exact .inl ⟨by have := h.2.1; omega, h⟩
  | d + 1, i, k, P, h1, h2, H => by
    obtain ⟨k, rfl⟩ : ∃ m, k = m + 1 := ⟨k - 1, by omega⟩
    have := B.a1; have := B.a2; have := B.b1; have := B.b2
    simp only [spec_sqFar.l1]
    rw [if_pos (by omega)]
    obtain ⟨P', hP, k', hk', e⟩ := sqFar_l2 B T i (by omega) b.toNat 1 k P (by omega) (by omega) (by omega) H
    rw [show ((1 : Nat) : Int) = 1 from rfl] at e
    rw [e]
    exact sqFar_l1 B T hT d (i + 1) k' P' (by omega) (by omega) hP

theorem sqFar_l0 {a b c : Int} {l : List S27} (B : Board a b c l) : ∀ (d i k : Nat) (T : List Int), i + d = (a + 1).toNat → d + 500000 ≤ k → T.length = (a + 1).toNat → T.take i = List.replicate i (-1) →
    ∃ U, Far a b c l U ∧ spec_sqFar.l0 k T ((a + 1).toNat : Int) (i : Int) a b c l = some U
  | 0, i, k, T, h1, h2, h3, h4 => by
    obtain ⟨k, rfl⟩ : ∃ m, k = m + 1 := ⟨k - 1, by omega⟩
    have := B.a1; have := B.a2
    have hT : T = List.replicate (a + 1).toNat (-1) := by rw [List.take_of_length_le (by omega)] at h4; rw [h4, show i = (a + 1).toNat by omega]
    simp only [spec_sqFar.l0]
    rw [if_neg (by omega), w64 (a + 1) (by omega) (by omega), if_pos (by omega), if_pos (by omega), if_pos (by omega), if_pos (by omega), hT]
    refine sqFar_l1 B _ (Bq.start B) a.toNat 0 k _ (by omega) (by omega) ⟨List.length_replicate, fun t t0 t1 => by rw [rdL_rep]; simp, fun t p t0 t1 => ?_⟩
    rw [rdL_rep]
    constructor
    · intro h; simp at h
    · rintro (⟨h, g, _⟩ | ⟨_, _, _, f, f1, f2, _⟩) <;> omega
  | d + 1, i, k, T, h1, h2, h3, h4 => by
    obtain ⟨k, rfl⟩ : ∃ m, k = m + 1 := ⟨k - 1, by omega⟩
    have := B.a1; have := B.a2
    simp only [spec_sqFar.l0]
    rw [if_pos (by omega), if_pos (nat_nn i), if_pos (by omega), w64_succ (by omega), Int.toNat_natCast]
    refine sqFar_l0 B d (i + 1) k _ (by omega) (by omega) (by rw [List.length_set]; exact h3) ?_
    rw [set_take _ _ _ (by omega), h4, List.replicate_succ']

/-- both sides' table -/
theorem far_eq {a b c : Int} {l : List S27} (B : Board a b c l) : ∃ U, Far a b c l U ∧ ∀ k, 600000 ≤ k → impl_Board_far.f k a b c l = some U ∧ spec_sqFar.f k a b c l = some U := by
  have := B.a1; have := B.a2
  obtain ⟨U, hU, h⟩ := implFar_eq B
  refine ⟨U, hU, fun k hk => ⟨h k (by omega), ?_⟩⟩
  unfold spec_sqFar.f
  rw [w64 (a + 1) (by omega) (by omega), if_pos (by omega), if_pos (by omega)]
  simp only [Option.bind_some, List.length_replicate]
  obtain ⟨V, hV, e⟩ := sqFar_l0 B (a + 1).toNat 0 k (List.replicate (a + 1).toNat 0) (by omega) (by omega) List.length_replicate rfl
  rw [show ((0 : Nat) : Int) = 0 from rfl] at e
  rw [e, hV.unique B hU]

end Go.Proofs.Ytkobjjadojpjfaa.Pr
