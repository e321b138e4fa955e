/- Proved here: a board with one ladder more is a board just where the ladder begins and ends at squares at which no jump begins and none leads to its beginning; the conditions are a board's own bounds. -/
import Derived.Test.YtkobjjadojpjfaaPL14
namespace Go.Proofs.Ytkobjjadojpjfaa.Pr
open Go.RowKit Go.Proofs.YtkobjjadojpjfaaW.PrintWords Go.Proofs.YtkobjjadojpjfaaW.PrintLast Go.Proofs.YtkobjjadojpjfaaW.PrintMore
set_option linter.unusedVariables false
set_option linter.unusedSimpArgs false

theorem begF {l : List S27} {s : Int} : (beg l s).2 = false ↔ ∀ x ∈ l, x.f0 ≠ s := ⟨fun h => (beg_false l s h).2, fun h => by
  cases e : (beg l s).2 with
  | false => rfl
  | true =>
    obtain ⟨x, hx, h1, _⟩ := beg_true l s e
    exact absurd h1 (h x hx)⟩

theorem good_iff (a b c : Int) (l : List S27) : good a b c l = true ↔ ((1 ≤ a ∧ a ≤ 100) ∧ (1 ≤ b ∧ b ≤ 8) ∧ (0 ≤ c ∧ c ≤ 2) ∧ l.length ≤ 20) ∧ Ord l ∧ ∀ x ∈ l, (1 ≤ x.f0 ∧ x.f0 ≤ a - 1) ∧ (0 ≤ x.f1 ∧ x.f1 ≤ a) ∧ ∀ y ∈ l, y.f0 ≠ x.f1 := by
  constructor
  · intro h
    have hO := good_ord h
    unfold good at h
    simp only [Bool.and_eq_true, decide_eq_true_eq] at h
    refine ⟨⟨h.1, h.2.1, h.2.2.1, h.2.2.2.1⟩, hO, fun x hx => ?_⟩
    obtain ⟨j, hj, rfl⟩ := List.mem_iff_getElem.mp hx
    have ho := (allFrom_iff _ _ _).mp h.2.2.2.2 j (by omega) (by omega)
    unfold okB at ho
    simp only [Bool.and_eq_true, Bool.or_eq_true, decide_eq_true_eq, Bool.not_eq_true'] at ho
    have e : gJ l j = l[j] := rdJ_at hj
    rw [e] at ho
    exact ⟨ho.1, ho.2.1, begF.mp ho.2.2.2⟩
  · rintro ⟨⟨ha, hb, hc, hl⟩, hO, hx⟩
    unfold good
    simp only [Bool.and_eq_true, decide_eq_true_eq]
    refine ⟨ha, hb, hc, hl, (allFrom_iff _ _ _).mpr fun j _ hj => ?_⟩
    have hj : j < l.length := by omega
    have e : gJ l j = l[j] := rdJ_at hj
    have := hx l[j] (List.getElem_mem hj)
    unfold okB
    rw [e]
    simp only [Bool.and_eq_true, Bool.or_eq_true, decide_eq_true_eq, Bool.not_eq_true']
    refine ⟨this.1, this.2.1, ?_, begF.mpr this.2.2⟩
    by_cases h0 : j = 0
    · exact .inl h0
    · refine .inr ?_
      have e2 : gJ l (j - 1) = l[j - 1] := rdJ_at (by omega)
      rw [e2]
      exact List.pairwise_iff_getElem.mp hO (j - 1) j (by omega) hj (by omega)

theorem mem_insL (x y : S27) (l : List S27) : y ∈ insL x l ↔ y = x ∨ y ∈ l := by
  unfold insL
  rw [List.mem_append, List.mem_cons]
  constructor
  · rintro (h | h | h)
    · exact .inr (List.mem_of_mem_take h)
    · exact .inl h
    · exact .inr (List.mem_of_mem_drop h)
  · rintro (h | h)
    · exact .inr (.inl h)
    · rw [← List.take_append_drop (posJ x l l.length) l, List.mem_append] at h
      rcases h with h | h
      · exact .inl h
      · exact .inr (.inr h)

theorem posJ_spec (x : S27) (l : List S27) : ∀ n, n ≤ l.length → (∀ m, (hm : m < l.length) → posJ x l n ≤ m → m < n → x.f0 < l[m].f0) ∧ (∀ m, (hm : m < l.length) → m + 1 = posJ x l n → l[m].f0 ≤ x.f0)
  | 0, _ => ⟨fun m hm h1 h2 => by omega, fun m hm h => by unfold posJ at h; omega⟩
  | n + 1, hn => by
    have ih := posJ_spec x l n (by omega)
    have e : gJ l n = l[n] := rdJ_at (by omega)
    unfold posJ
    by_cases h : x.f0 < (gJ l n).f0
    · rw [if_pos h]
      refine ⟨fun m hm h1 h2 => ?_, ih.2⟩
      by_cases em : m = n
      · subst em; rw [e] at h; exact h
      · exact ih.1 m hm h1 (by omega)
    · rw [if_neg h]
      refine ⟨fun m hm h1 h2 => by omega, fun m hm h1 => ?_⟩
      obtain rfl : m = n := by omega
      rw [e] at h
      omega

theorem insL_ord {x : S27} {l : List S27} (hO : Ord l) (hx : ∀ y ∈ l, y.f0 ≠ x.f0) : Ord (insL x l) := by
  have hp := posJ_spec x l l.length (Nat.le_refl _)
  have hle := posJ_le x l l.length
  have hg := List.pairwise_iff_getElem.mp hO
  have h1 : ∀ y ∈ l.take (posJ x l l.length), y.f0 < x.f0 := fun y hy => by
    obtain ⟨m, hm, rfl⟩ := List.mem_iff_getElem.mp hy
    rw [List.length_take] at hm
    rw [List.getElem_take]
    have hne := hx l[m] (List.getElem_mem _)
    have h2 := hp.2 (posJ x l l.length - 1) (by omega) (by omega)
    by_cases em : m = posJ x l l.length - 1
    · subst em; omega
    · have := hg m (posJ x l l.length - 1) (by omega) (by omega) (by omega)
      omega
  have h2 : ∀ y ∈ l.drop (posJ x l l.length), x.f0 < y.f0 := fun y hy => by
    obtain ⟨m, hm, rfl⟩ := List.mem_iff_getElem.mp hy
    rw [List.length_drop] at hm
    rw [List.getElem_drop]
    exact hp.1 _ (by omega) (by omega) (by omega)
  refine List.pairwise_append.mpr ⟨hO.sublist (List.take_sublist _ _), List.pairwise_cons.mpr ⟨h2, hO.sublist (List.drop_sublist _ _)⟩, fun y hy z hz => ?_⟩
  have hy1 := h1 y hy
  rcases List.mem_cons.mp hz with rfl | hz
  · exact hy1
  · exact Int.lt_trans hy1 (h2 z hz)

theorem insL_ord_rev {x : S27} {l : List S27} (hO : Ord (insL x l)) : ∀ y ∈ l, y.f0 ≠ x.f0 := fun y hy => by
  unfold insL at hO
  have h := List.pairwise_append.mp hO
  rw [← List.take_append_drop (posJ x l l.length) l, List.mem_append] at hy
  rcases hy with hy | hy
  · have := h.2.2 y hy x (List.mem_cons_self ..)
    omega
  · have := (List.pairwise_cons.mp h.2.1).1 y hy
    omega

/-- where a ladder may be put -/
theorem good_ins {a b c : Int} {l : List S27} (h : good a b c l = true) (hl : l.length < 20) (i j : Int) (h1 : 1 ≤ i) (h2 : i < j) (h3 : j ≤ a) :
    good a b c (insL ⟨i, j⟩ l) = true ↔ ((beg l i).2 = false ∧ (∀ y ∈ l, y.f1 ≠ i)) ∧ (beg l j).2 = false := by
  have hg := (good_iff a b c l).mp h
  constructor
  · intro g
    have hi := (good_iff a b c _).mp g
    have hn := insL_ord_rev hi.2.1
    refine ⟨⟨begF.mpr hn, fun y hy e => ?_⟩, begF.mpr fun y hy => ?_⟩
    · exact (hi.2.2 y ((mem_insL _ _ _).mpr (.inr hy))).2.2 ⟨i, j⟩ ((mem_insL _ _ _).mpr (.inl rfl)) e.symm
    · exact (hi.2.2 ⟨i, j⟩ ((mem_insL _ _ _).mpr (.inl rfl))).2.2 y ((mem_insL _ _ _).mpr (.inr hy))
  · rintro ⟨⟨g1, g2⟩, g3⟩
    refine (good_iff a b c _).mpr ⟨⟨hg.1.1, hg.1.2.1, hg.1.2.2.1, by rw [insL_length]; omega⟩, insL_ord hg.2.1 (begF.mp g1), fun x hx => ?_⟩
    rcases (mem_insL _ _ _).mp hx with rfl | hx
    · refine ⟨⟨h1, by show i ≤ a - 1; omega⟩, ⟨by show 0 ≤ j; omega, h3⟩, fun y hy => ?_⟩
      rcases (mem_insL _ _ _).mp hy with rfl | hy
      · show i ≠ j; omega
      · exact begF.mp g3 y hy
    · have hq := hg.2.2 x hx
      refine ⟨hq.1, hq.2.1, fun y hy => ?_⟩
      rcases (mem_insL _ _ _).mp hy with rfl | hy
      · exact fun e => g2 x hx e.symm
      · exact hq.2.2 y hy

end Go.Proofs.Ytkobjjadojpjfaa.Pr
