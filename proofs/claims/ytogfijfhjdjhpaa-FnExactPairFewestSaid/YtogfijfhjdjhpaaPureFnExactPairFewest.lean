/- Proved here: the law FnExactPairFewest answers true at all that comes in; no other condition. -/
import Derived.Test.YtogfijfhjdjhpaaFLawsFnExactPairFewest
namespace Go.Proofs.Ytogfijfhjdjhpaa.Pure
open Go.RowKit Go.Proofs.Ytogfijfhjdjhpaa.Pr Go.Proofs.YtogfijfhjdjhpaaW.PrintWords Go.Proofs.YtogfijfhjdjhpaaW.PrintLast
set_option linter.unusedSimpArgs false
set_option linter.unusedVariables false

abbrev Tw := S38

theorem w64 (x : Int) (h1 : -9223372036854775808 ≤ x) (h2 : x ≤ 9223372036854775807) : wrap64 x = x := by unfold wrap64; omega

theorem w64_succ {i : Nat} (h : i < 9223372036854775807) : wrap64 ((i : Int) + 1) = ((i + 1 : Nat) : Int) := by
  rw [w64 _ (by omega) (by omega)]
  omega

theorem rdT_at {l : List Tw} {i : Nat} (h : i < l.length) : rd_T38 l (i : Int) = l[i] := by
  unfold rd_T38
  simp [List.getD, List.getElem?_eq_getElem h]

/-! #### a pair among others -/
theorem c43 (l : List Tw) (hl : l.length ≤ 1000000000000000) (x : Tw) : ∀ (d i k : Nat), i + d = l.length → d < k →
    ∃ v : Int, impl_twins_43.l0 k l (l.length : Int) (i : Int) x.f0 x.f1 x.f2 x.f3 = some v ∧ (v ≥ 0 ↔ x ∈ l.drop i)
  | 0, i, k, h1, h2 => by
    obtain ⟨k, rfl⟩ : ∃ m, k = m + 1 := ⟨k - 1, by omega⟩
    refine ⟨-1, ?_, ?_⟩
    · simp only [impl_twins_43.l0]
      rw [if_neg (by omega)]
    · rw [List.drop_of_length_le (by omega)]
      constructor
      · intro h; omega
      · intro h; simp at h
  | d + 1, i, k, h1, h2 => by
    obtain ⟨k, rfl⟩ : ∃ m, k = m + 1 := ⟨k - 1, by omega⟩
    have hi : i < l.length := by omega
    rw [List.drop_eq_getElem_cons hi]
    by_cases h : x = l[i]
    · refine ⟨(i : Int), ?_, ?_⟩
      · simp only [impl_twins_43.l0]
        rw [if_pos (by omega), if_pos (by omega), if_pos (by omega), rdT_at hi, ← h, if_pos (by simp)]
      · constructor
        · intro _; rw [h]; exact List.mem_cons_self ..
        · intro _; omega
    · obtain ⟨v, hv, hm⟩ := c43 l hl x d (i + 1) k (by omega) (by omega)
      refine ⟨v, ?_, ?_⟩
      · simp only [impl_twins_43.l0]
        rw [if_pos (by omega), if_pos (by omega), if_pos (by omega), rdT_at hi, if_neg, w64_succ (by omega), hv]
        intro hb
        simp only [Bool.and_eq_true, beq_iff_eq] at hb
        obtain ⟨e0, e1, e2, e3⟩ := hb
        apply h
        cases x
        cases hh : l[i]
        simp_all
      · rw [hm, List.mem_cons]
        constructor
        · exact .inr
        · rintro (e | e)
          · exact absurd e h
          · exact e

theorem c30 (l : List Tw) (hl : l.length ≤ 1000000000000000) (x : Tw) (k : Nat) (hk : l.length < k) : ∃ v : Bool, impl_twins_30.f k l x.f0 x.f1 x.f2 x.f3 = some v ∧ (v = true ↔ x ∈ l) := by
  obtain ⟨v, hv, hm⟩ := c43 l hl x l.length 0 k (by omega) hk
  rw [show ((0 : Nat) : Int) = 0 from rfl] at hv
  refine ⟨decide (v ≥ 0), ?_, ?_⟩
  · unfold impl_twins_30.f impl_twins_43.f
    rw [hv]
    rfl
  · rw [decide_eq_true_iff, hm, List.drop_zero]

abbrev Dn (x : Tw) : Prop := x.f2 = x.f0 ∧ x.f3 = x.f0

theorem c48 (l : List Tw) (hl : l.length ≤ 1000000000000000) : ∀ (d i k : Nat), i + d = l.length → d < k →
    ∃ v : Int, impl_twins_48.l0 k l doneV (l.length : Int) (i : Int) = some v ∧ (v ≥ 0 ↔ ∃ x ∈ l.drop i, Dn x)
  | 0, i, k, h1, h2 => by
    obtain ⟨k, rfl⟩ : ∃ m, k = m + 1 := ⟨k - 1, by omega⟩
    refine ⟨-1, ?_, ?_⟩
    · simp only [impl_twins_48.l0]
      rw [if_neg (by omega)]
    · rw [List.drop_of_length_le (by omega)]
      constructor
      · intro h; omega
      · rintro ⟨x, h, _⟩; simp at h
  | d + 1, i, k, h1, h2 => by
    obtain ⟨k, rfl⟩ : ∃ m, k = m + 1 := ⟨k - 1, by omega⟩
    have hi : i < l.length := by omega
    have hf : ∃ b : Bool, fvT_.f doneV l[i].f0 l[i].f1 l[i].f2 l[i].f3 = some b ∧ (b = true ↔ Dn l[i]) := by
      show ∃ b : Bool, impl_twins_isDone.f l[i].f0 l[i].f1 l[i].f2 l[i].f3 = some b ∧ _
      unfold impl_twins_isDone.f
      by_cases h : l[i].f2 = l[i].f0
      · rw [if_pos h]
        exact ⟨_, rfl, by rw [beq_iff_eq]; exact ⟨fun e => ⟨h, e⟩, fun e => e.2⟩⟩
      · rw [if_neg h]
        exact ⟨_, rfl, by constructor; (intro e; cases e); exact fun e => absurd e.1 h⟩
    obtain ⟨b, hb, hbm⟩ := hf
    rw [List.drop_eq_getElem_cons hi]
    cases b with
    | true =>
      refine ⟨(i : Int), ?_, ?_⟩
      · simp only [impl_twins_48.l0]
        rw [if_pos (by omega), if_pos (by omega), if_pos (by omega), rdT_at hi, hb]
        rfl
      · constructor
        · intro _; exact ⟨_, List.mem_cons_self .., hbm.mp rfl⟩
        · intro _; omega
    | false =>
      obtain ⟨v, hv, hm⟩ := c48 l hl d (i + 1) k (by omega) (by omega)
      refine ⟨v, ?_, ?_⟩
      · simp only [impl_twins_48.l0]
        rw [if_pos (by omega), if_pos (by omega), if_pos (by omega), rdT_at hi, hb]
        simp only [Option.bind_some]
        rw [if_neg (by decide), w64_succ (by omega), hv]
      · rw [hm]
        constructor
        · rintro ⟨x, hx, hd⟩; exact ⟨x, List.mem_cons_of_mem _ hx, hd⟩
        · rintro ⟨x, hx, hd⟩
          rcases List.mem_cons.mp hx with rfl | hx
          · have := hbm.mpr hd; cases this
          · exact ⟨x, hx, hd⟩

theorem c37 (l : List Tw) (hl : l.length ≤ 1000000000000000) (k : Nat) (hk : l.length < k) : ∃ v : Bool, impl_twins_37.f k l doneV = some v ∧ (v = true ↔ ∃ x ∈ l, Dn x) := by
  obtain ⟨v, hv, hm⟩ := c48 l hl l.length 0 k (by omega) hk
  rw [show ((0 : Nat) : Int) = 0 from rfl] at hv
  refine ⟨decide (v ≥ 0), ?_, ?_⟩
  · unfold impl_twins_37.f impl_twins_48.f
    rw [hv]
    rfl
  · rw [decide_eq_true_iff, hm, List.drop_zero]

/-! #### one throw -/
def nl (t : Tw) (c : Int) : List Tw :=
  if t.f2 + c ≤ t.f0 ∨ t.f3 + c ≤ t.f0 then (if t.f2 + c ≤ t.f0 then [⟨t.f0, t.f1, t.f2 + c, t.f3⟩] else []) ++ (if t.f3 + c ≤ t.f0 then [⟨t.f0, t.f1, t.f2, t.f3 + c⟩] else []) else [t]

structure Gd (s f : Int) (t : Tw) : Prop where
  e0 : t.f0 = s
  e1 : t.f1 = f
  a0 : 0 ≤ t.f2
  a1 : t.f2 ≤ s
  b0 : 0 ≤ t.f3
  b1 : t.f3 ≤ s

theorem nl_good {s f : Int} {t : Tw} (h : Gd s f t) {c : Int} (hc : 1 ≤ c) {x : Tw} (hx : x ∈ nl t c) : Gd s f x := by
  have h0 := h.e0; have h1 := h.e1; have h2 := h.a0; have h3 := h.a1; have h4 := h.b0; have h5 := h.b1
  unfold nl at hx
  split at hx
  · rcases List.mem_append.mp hx with hx | hx
    · split at hx
      · obtain rfl := List.mem_singleton.mp hx
        exact ⟨h0, h1, by show 0 ≤ t.f2 + c; omega, by show t.f2 + c ≤ s; omega, h4, h5⟩
      · simp at hx
    · split at hx
      · obtain rfl := List.mem_singleton.mp hx
        exact ⟨h0, h1, h2, h3, by show 0 ≤ t.f3 + c; omega, by show t.f3 + c ≤ s; omega⟩
      · simp at hx
  · obtain rfl := List.mem_singleton.mp hx
    exact h

theorem nl_len (t : Tw) (c : Int) : (nl t c).length ≤ 2 := by
  unfold nl
  repeat' split
  all_goals simp

def mv (t : Tw) (c : Int) : List Int := (if t.f2 + c ≤ t.f0 then [0] else []) ++ (if t.f3 + c ≤ t.f0 then [1] else [])

theorem moves_eq {s f : Int} {t : Tw} (h : Gd s f t) (hs : s ≤ 6) {c : Int} (h1 : 1 ≤ c) (h4 : c ≤ 4) (k : Nat) (hk : 3 ≤ k) : impl_twins_moves.f k t.f0 t.f1 t.f2 t.f3 c = some (mv t c) := by
  obtain ⟨k, rfl⟩ : ∃ m, k = m + 1 + 1 + 1 := ⟨k - 3, by omega⟩
  have := h.e0; have := h.a0; have := h.a1; have := h.b0; have := h.b1
  have p0 : pick_.f t.f2 t.f3 0 = some t.f2 := rfl
  have p1 : pick_.f t.f2 t.f3 1 = some t.f3 := rfl
  have e1 : wrap64 (0 + 1) = 1 := by rw [w64 _ (by omega) (by omega)]; rfl
  have e2 : wrap64 (1 + 1) = 2 := by rw [w64 _ (by omega) (by omega)]; rfl
  have q0 : wrap64 (t.f2 + c) = t.f2 + c := w64 _ (by omega) (by omega)
  have q1 : wrap64 (t.f3 + c) = t.f3 + c := w64 _ (by omega) (by omega)
  unfold impl_twins_moves.f mv
  simp only [impl_twins_moves.l0, p0, p1, e1, e2, q0, q1, Option.bind_some]
  by_cases g0 : t.f2 + c ≤ t.f0 <;> by_cases g1 : t.f3 + c ≤ t.f0 <;> simp [g0, g1]

theorem bl1 {s f : Int} {t : Tw} (h : Gd s f t) (hs : s ≤ 6) {c : Int} (h1 : 1 ≤ c) (h4 : c ≤ 4) (hm : (mv t c).length > 0) (k : Nat) (hk : 3 ≤ k) (x5 l : List Tw) (n j : Int) :
    ∃ k', k ≤ k' + 3 ∧ impl_behind.l1 k c x5 ([] : List Tw) l n j (mv t c) ((mv t c).length : Int) 0 t.f0 t.f1 t.f2 t.f3 = impl_behind.j2 k' c x5 (nl t c) l n j := by
  obtain ⟨k, rfl⟩ : ∃ m, k = m + 1 + 1 + 1 := ⟨k - 3, by omega⟩
  have := h.e0; have := h.a0; have := h.a1; have := h.b0; have := h.b1
  have m0 : impl_twins_moved.f t.f0 t.f1 t.f2 t.f3 0 c = some (t.f0, t.f1, t.f2 + c, t.f3) := by unfold impl_twins_moved.f; rw [if_pos rfl, w64 _ (by omega) (by omega)]
  have m1 : impl_twins_moved.f t.f0 t.f1 t.f2 t.f3 1 c = some (t.f0, t.f1, t.f2, t.f3 + c) := by unfold impl_twins_moved.f; rw [if_neg (by decide), if_pos rfl, w64 _ (by omega) (by omega)]
  have e1 : wrap64 (0 + 1) = 1 := by rw [w64 _ (by omega) (by omega)]; rfl
  have e2 : wrap64 (1 + 1) = 2 := by rw [w64 _ (by omega) (by omega)]; rfl
  have e3 : wrap64 1 = 1 := w64 _ (by omega) (by omega)
  have e4 : wrap64 2 = 2 := w64 _ (by omega) (by omega)
  have r00 : rd [(0 : Int)] 0 = 0 := rfl
  have r10 : rd [(1 : Int)] 0 = 1 := rfl
  have r0 : rd [(0 : Int), 1] 0 = 0 := rfl
  have r1 : rd [(0 : Int), 1] 1 = 1 := rfl
  by_cases g0 : t.f2 + c ≤ t.f0 <;> by_cases g1 : t.f3 + c ≤ t.f0
  · refine ⟨k, by omega, ?_⟩
    simp [mv, nl, g0, g1, impl_behind.l1, m0, m1, e3, e4, r0, r1]
  · refine ⟨k + 1, by omega, ?_⟩
    simp [mv, nl, g0, g1, impl_behind.l1, m0, m1, e3, e4, r00]
  · refine ⟨k + 1, by omega, ?_⟩
    simp [mv, nl, g0, g1, impl_behind.l1, m0, m1, e3, e4, r10]
  · simp [mv, g0, g1] at hm

theorem bl2 (c : Int) (l : List Tw) (n j : Int) (z : List Tw) (hz : z.length ≤ 1000000) : ∀ (d i k : Nat) (x5 : List Tw), i + d = z.length → x5.length + d ≤ 1000000000000 → x5.length + 2 * d + 2 < k →
    ∃ y k', k ≤ k' + d + 1 ∧ y.length ≤ x5.length + d ∧ (∀ x, x ∈ y ↔ x ∈ x5 ∨ x ∈ z.drop i) ∧ impl_behind.l2 k c x5 l n j z (z.length : Int) (i : Int) = impl_behind.l0 k' c y l n (wrap64 (j + 1))
  | 0, i, k, x5, h1, h2, h3 => by
    obtain ⟨k, rfl⟩ : ∃ m, k = m + 1 := ⟨k - 1, by omega⟩
    refine ⟨x5, k, by omega, by omega, fun x => by rw [List.drop_of_length_le (by omega)]; simp, ?_⟩
    simp only [impl_behind.l2]
    rw [if_neg (by omega)]
  | d + 1, i, k, x5, h1, h2, h3 => by
    obtain ⟨k, rfl⟩ : ∃ m, k = m + 1 := ⟨k - 1, by omega⟩
    have hi : i < z.length := by omega
    obtain ⟨v, hv, hm⟩ := c30 x5 (by omega) z[i] k (by omega)
    cases v with
    | true =>
      obtain ⟨y, k', hk, hy, hym, e⟩ := bl2 c l n j z hz d (i + 1) k x5 (by omega) (by omega) (by omega)
      refine ⟨y, k', by omega, by omega, fun x => ?_, ?_⟩
      · rw [hym, List.drop_eq_getElem_cons hi, List.mem_cons]
        constructor
        · rintro (h | h)
          · exact .inl h
          · exact .inr (.inr h)
        · rintro (h | h | h)
          · exact .inl h
          · exact .inl (h ▸ hm.mp rfl)
          · exact .inr h
      · simp only [impl_behind.l2]
        rw [if_pos (by omega), if_pos (by omega), if_pos (by omega), rdT_at hi, hv]
        simp only [Option.bind_some]
        rw [if_pos trivial, w64_succ (by omega), e]
    | false =>
      obtain ⟨y, k', hk, hy, hym, e⟩ := bl2 c l n j z hz d (i + 1) k (x5 ++ [z[i]]) (by omega) (by rw [List.length_append, List.length_singleton]; omega) (by rw [List.length_append, List.length_singleton]; omega)
      rw [List.length_append, List.length_singleton] at hy
      refine ⟨y, k', by omega, by omega, fun x => ?_, ?_⟩
      · rw [hym, List.drop_eq_getElem_cons hi, List.mem_cons, List.mem_append, List.mem_singleton, or_assoc]
      · simp only [impl_behind.l2]
        rw [if_pos (by omega), if_pos (by omega), if_pos (by omega), rdT_at hi, hv]
        simp only [Option.bind_some]
        rw [if_neg (by decide), if_pos (by omega), w64_succ (by omega)]
        exact e

theorem bl0 {s f : Int} (hs : s ≤ 6) {c : Int} (h1 : 1 ≤ c) (h4 : c ≤ 4) (l : List Tw) (hl : ∀ t ∈ l, Gd s f t) (hll : l.length ≤ 100000000000) : ∀ (d i k : Nat) (x5 : List Tw), i + d = l.length → x5.length + 2 * d ≤ 500000000000 → x5.length + 20 * d + 20 < k →
    ∃ y, y.length ≤ x5.length + 2 * d ∧ (∀ x, x ∈ y ↔ x ∈ x5 ∨ ∃ t ∈ l.drop i, x ∈ nl t c) ∧ impl_behind.l0 k c x5 l (l.length : Int) (i : Int) = some y
  | 0, i, k, x5, g1, g2, g3 => by
    obtain ⟨k, rfl⟩ : ∃ m, k = m + 1 := ⟨k - 1, by omega⟩
    refine ⟨x5, by omega, fun x => by rw [List.drop_of_length_le (by omega)]; simp, ?_⟩
    simp only [impl_behind.l0]
    rw [if_neg (by omega)]
  | d + 1, i, k, x5, g1, g2, g3 => by
    obtain ⟨k, rfl⟩ : ∃ m, k = m + 1 + 1 := ⟨k - 2, by omega⟩
    have hi : i < l.length := by omega
    have hg := hl _ (List.getElem_mem hi)
    have hzl := nl_len l[i] c
    have key : ∀ (k1 : Nat), k ≤ k1 + 3 → ∃ y, y.length ≤ x5.length + 2 * (d + 1) ∧ (∀ x, x ∈ y ↔ x ∈ x5 ∨ ∃ t ∈ l.drop i, x ∈ nl t c) ∧ impl_behind.j2 (k1 + 1) c x5 (nl l[i] c) l (l.length : Int) (i : Int) = some y := fun k1 hk1 => by
      obtain ⟨y, k', hk, hy, hym, e⟩ := bl2 c l (l.length : Int) (i : Int) (nl l[i] c) (by omega) (nl l[i] c).length 0 k1 x5 (by omega) (by omega) (by omega)
      obtain ⟨y2, hy2, hym2, e2⟩ := bl0 hs h1 h4 l hl hll d (i + 1) k' y (by omega) (by omega) (by omega)
      refine ⟨y2, by omega, fun x => ?_, ?_⟩
      · rw [hym2, hym, List.drop_zero, List.drop_eq_getElem_cons hi]
        constructor
        · rintro ((h | h) | ⟨t, ht, h⟩)
          · exact .inl h
          · exact .inr ⟨_, List.mem_cons_self .., h⟩
          · exact .inr ⟨t, List.mem_cons_of_mem _ ht, h⟩
        · rintro (h | ⟨t, ht, h⟩)
          · exact .inl (.inl h)
          · rcases List.mem_cons.mp ht with rfl | ht
            · exact .inl (.inr h)
            · exact .inr ⟨t, ht, h⟩
      · simp only [impl_behind.j2]
        rw [show ((0 : Nat) : Int) = 0 from rfl] at e
        rw [e, w64_succ (by omega), e2]
    by_cases hm : (mv l[i] c).length > 0
    · obtain ⟨k', hk', e⟩ := bl1 hg hs h1 h4 hm (k + 1) (by omega) x5 l (l.length : Int) (i : Int)
      obtain ⟨k1, rfl⟩ : ∃ m, k' = m + 1 := ⟨k' - 1, by omega⟩
      obtain ⟨y, hy, hym, e2⟩ := key k1 (by omega)
      refine ⟨y, hy, hym, ?_⟩
      simp only [impl_behind.l0]
      rw [if_pos (by omega), if_pos (by omega), if_pos (by omega), rdT_at hi, moves_eq hg hs h1 h4 _ (by omega)]
      simp only [Option.bind_some]
      rw [if_pos (by omega), e, e2]
    · obtain ⟨y, hy, hym, e2⟩ := key k (by omega)
      refine ⟨y, hy, hym, ?_⟩
      have hn : nl l[i] c = [l[i]] := by
        unfold nl
        rw [if_neg]
        intro h
        apply hm
        unfold mv
        rcases h with h | h <;> simp [h]
      rw [hn] at e2
      simp only [impl_behind.l0]
      rw [if_pos (by omega), if_pos (by omega), if_pos (by omega), rdT_at hi, moves_eq hg hs h1 h4 _ (by omega)]
      simp only [Option.bind_some]
      rw [if_neg (by omega)]
      exact e2

theorem behind_eq {s f : Int} (hs : s ≤ 6) {c : Int} (h1 : 1 ≤ c) (h4 : c ≤ 4) (l : List Tw) (hl : ∀ t ∈ l, Gd s f t) (hll : l.length ≤ 100000000000) (k : Nat) (hk : 20 * l.length + 20 < k) :
    ∃ y, y.length ≤ 2 * l.length ∧ (∀ x, x ∈ y ↔ ∃ t ∈ l, x ∈ nl t c) ∧ impl_behind.f k l c = some y := by
  obtain ⟨y, hy, hym, e⟩ := bl0 hs h1 h4 l hl hll l.length 0 k [] (by omega) (by simp; omega) (by simp; omega)
  refine ⟨y, by simpa using hy, fun x => by rw [hym]; simp, ?_⟩
  unfold impl_behind.f
  exact e

/-! #### all throws of one round -/
theorem fl2 (x3 : List Tw) (x4 c s f a b : Int) (z : List Tw) (hz : z.length ≤ 400000000000) : ∀ (d i k : Nat) (x5 : List Tw), i + d = z.length → x5.length + d ≤ 4000000000000 → x5.length + 2 * d + 2 < k →
    ∃ y k', k ≤ k' + d + 1 ∧ y.length ≤ x5.length + d ∧ (∀ x, x ∈ y ↔ x ∈ x5 ∨ x ∈ z.drop i) ∧ impl_twins_fewest.l2 k x3 x4 x5 c z (z.length : Int) (i : Int) s f a b = impl_twins_fewest.l1 k' x3 x4 y (wrap64 (c + 1)) s f a b
  | 0, i, k, x5, h1, h2, h3 => by
    obtain ⟨k, rfl⟩ : ∃ m, k = m + 1 := ⟨k - 1, by omega⟩
    refine ⟨x5, k, by omega, by omega, fun x => by rw [List.drop_of_length_le (by omega)]; simp, ?_⟩
    simp only [impl_twins_fewest.l2]
    rw [if_neg (by omega)]
  | d + 1, i, k, x5, h1, h2, h3 => by
    obtain ⟨k, rfl⟩ : ∃ m, k = m + 1 := ⟨k - 1, by omega⟩
    have hi : i < z.length := by omega
    obtain ⟨v, hv, hm⟩ := c30 x5 (by omega) z[i] k (by omega)
    cases v with
    | true =>
      obtain ⟨y, k', hk, hy, hym, e⟩ := fl2 x3 x4 c s f a b z hz d (i + 1) k x5 (by omega) (by omega) (by omega)
      refine ⟨y, k', by omega, by omega, fun x => ?_, ?_⟩
      · rw [hym, List.drop_eq_getElem_cons hi, List.mem_cons]
        constructor
        · rintro (h | h)
          · exact .inl h
          · exact .inr (.inr h)
        · rintro (h | h | h)
          · exact .inl h
          · exact .inl (h ▸ hm.mp rfl)
          · exact .inr h
      · simp only [impl_twins_fewest.l2]
        rw [if_pos (by omega), if_pos (by omega), if_pos (by omega), rdT_at hi, hv]
        simp only [Option.bind_some]
        rw [if_pos trivial, w64_succ (by omega), e]
    | false =>
      obtain ⟨y, k', hk, hy, hym, e⟩ := fl2 x3 x4 c s f a b z hz d (i + 1) k (x5 ++ [z[i]]) (by omega) (by rw [List.length_append, List.length_singleton]; omega) (by rw [List.length_append, List.length_singleton]; omega)
      rw [List.length_append, List.length_singleton] at hy
      refine ⟨y, k', by omega, by omega, fun x => ?_, ?_⟩
      · rw [hym, List.drop_eq_getElem_cons hi, List.mem_cons, List.mem_append, List.mem_singleton, or_assoc]
      · simp only [impl_twins_fewest.l2]
        rw [if_pos (by omega), if_pos (by omega), if_pos (by omega), rdT_at hi, hv]
        simp only [Option.bind_some]
        rw [if_neg (by decide), if_pos (by omega), w64_succ (by omega)]
        exact e

theorem fl1 {s f : Int} (hs : s ≤ 6) (hf : f ≤ 4) (x3 : List Tw) (hl : ∀ t ∈ x3, Gd s f t) (hll : x3.length ≤ 100000000000) (x4 a b : Int) : ∀ (d c k : Nat) (x5 : List Tw), (c + d : Int) = f + 1 → 1 ≤ c → x5.length + 2 * d * x3.length ≤ 2000000000000 → x5.length + d * (30 * x3.length + 40) + 20 < k →
    ∃ y k', k ≤ k' + d * (2 * x3.length + 2) + 1 ∧ y.length ≤ x5.length + 2 * d * x3.length ∧ (∀ x, x ∈ y ↔ x ∈ x5 ∨ ∃ e : Int, c ≤ e ∧ e ≤ f ∧ ∃ t ∈ x3, x ∈ nl t e) ∧ impl_twins_fewest.l1 k x3 x4 x5 (c : Int) s f a b = impl_twins_fewest.l0 k' y (wrap64 (x4 + 1)) s f a b
  | 0, c, k, x5, h1, h2, h3, h5 => by
    obtain ⟨k, rfl⟩ : ∃ m, k = m + 1 := ⟨k - 1, by omega⟩
    refine ⟨x5, k, by omega, by omega, fun x => ?_, ?_⟩
    · constructor
      · exact .inl
      · rintro (h | ⟨e, e1, e2, _⟩)
        · exact h
        · omega
    · simp only [impl_twins_fewest.l1]
      rw [if_neg (by omega)]
  | d + 1, c, k, x5, h1, h2, h3, h5 => by
    obtain ⟨k, rfl⟩ : ∃ m, k = m + 1 := ⟨k - 1, by omega⟩
    have q1 : 2 * (d + 1) * x3.length = 2 * d * x3.length + 2 * x3.length := by rw [Nat.mul_add, Nat.add_mul]
    have q2 : (d + 1) * (30 * x3.length + 40) = d * (30 * x3.length + 40) + (30 * x3.length + 40) := by rw [Nat.add_mul, Nat.one_mul]
    have q3 : (d + 1) * (2 * x3.length + 2) = d * (2 * x3.length + 2) + (2 * x3.length + 2) := by rw [Nat.add_mul, Nat.one_mul]
    rw [q1] at h3
    rw [q2] at h5
    obtain ⟨z, hz, hzm, ez⟩ := behind_eq hs (c := (c : Int)) (by omega) (by omega) x3 hl hll k (by omega)
    obtain ⟨y, k', hk, hy, hym, e⟩ := fl2 x3 x4 (c : Int) s f a b z (by omega) z.length 0 k x5 (by omega) (by omega) (by omega)
    obtain ⟨y2, k2, hk2, hy2, hym2, e2⟩ := fl1 hs hf x3 hl hll x4 a b d (c + 1) k' y (by omega) (by omega) (by omega) (by omega)
    refine ⟨y2, k2, by omega, by omega, fun x => ?_, ?_⟩
    · rw [hym2, hym, List.drop_zero, hzm]
      constructor
      · rintro ((h | h) | ⟨e, e1, e2, h⟩)
        · exact .inl h
        · exact .inr ⟨(c : Int), by omega, by omega, h⟩
        · exact .inr ⟨e, by omega, e2, h⟩
      · rintro (h | ⟨e, e1, e2, h⟩)
        · exact .inl (.inl h)
        · by_cases ec : e = (c : Int)
          · exact .inl (.inr (ec ▸ h))
          · exact .inr ⟨e, by omega, e2, h⟩
    · simp only [impl_twins_fewest.l1]
      rw [if_pos (by omega), ez]
      simp only [Option.bind_some]
      rw [show ((0 : Nat) : Int) = 0 from rfl] at e
      rw [e, w64_succ (by omega), e2]

/-! #### in how many throws a pair can be done -/
def Rch (f : Int) : Nat → Tw → Prop
  | 0, t => Dn t
  | n + 1, t => ∃ c : Int, 1 ≤ c ∧ c ≤ f ∧ ∃ x ∈ nl t c, Rch f n x

def few (s f a : Int) : Int := (s - a + f - 1) / f

theorem few_step {s f a c : Int} (hf1 : 1 ≤ f) (hf4 : f ≤ 4) (h1 : 1 ≤ c) (h2 : c ≤ f) (ha : a + c ≤ s) : few s f a ≤ few s f (a + c) + 1 := by
  unfold few
  have h : f = 1 ∨ f = 2 ∨ f = 3 ∨ f = 4 := by omega
  rcases h with rfl | rfl | rfl | rfl <;> omega

theorem few_one {s f a : Int} (hf1 : 1 ≤ f) (hf4 : f ≤ 4) (ha : a < s) : ∃ c : Int, 1 ≤ c ∧ c ≤ f ∧ a + c ≤ s ∧ few s f a = few s f (a + c) + 1 := by
  by_cases h : s - a ≤ f
  · refine ⟨s - a, by omega, h, by omega, ?_⟩
    unfold few
    have h : f = 1 ∨ f = 2 ∨ f = 3 ∨ f = 4 := by omega
    rcases h with rfl | rfl | rfl | rfl <;> omega
  · refine ⟨f, hf1, by omega, by omega, ?_⟩
    unfold few
    have h : f = 1 ∨ f = 2 ∨ f = 3 ∨ f = 4 := by omega
    rcases h with rfl | rfl | rfl | rfl <;> omega

theorem few_end {s f : Int} (hf1 : 1 ≤ f) (hf4 : f ≤ 4) : few s f s = 0 := by
  unfold few
  have h : f = 1 ∨ f = 2 ∨ f = 3 ∨ f = 4 := by omega
  rcases h with rfl | rfl | rfl | rfl <;> omega

theorem few_lo {s f a : Int} (hf1 : 1 ≤ f) (hf4 : f ≤ 4) (ha : a ≤ s) (hs : s ≤ 6) (h0 : 0 ≤ a) : 0 ≤ few s f a ∧ few s f a ≤ 6 ∧ (few s f a = 0 → a = s) := by
  unfold few
  have h : f = 1 ∨ f = 2 ∨ f = 3 ∨ f = 4 := by omega
  rcases h with rfl | rfl | rfl | rfl <;> omega

theorem rch_low {s f : Int} (hf1 : 1 ≤ f) (hf4 : f ≤ 4) : ∀ (n : Nat) (t : Tw), Gd s f t → Rch f n t → few s f t.f2 + few s f t.f3 ≤ n
  | 0, t, h, hd => by
    have h0 := h.e0
    obtain ⟨d1, d2⟩ : Dn t := hd
    have := few_end (s := s) hf1 hf4
    rw [d1, d2, h0, this]
    omega
  | n + 1, t, h, ⟨c, c1, c2, x, hx, hr⟩ => by
    have ih := rch_low hf1 hf4 n x (nl_good h c1 hx) hr
    have h0 := h.e0
    unfold nl at hx
    split at hx
    · rcases List.mem_append.mp hx with hx | hx
      · split at hx
        · rename_i g
          obtain rfl := List.mem_singleton.mp hx
          have := few_step (s := s) (a := t.f2) hf1 hf4 c1 c2 (by omega)
          simp only at ih
          omega
        · simp at hx
      · split at hx
        · rename_i g
          obtain rfl := List.mem_singleton.mp hx
          have := few_step (s := s) (a := t.f3) hf1 hf4 c1 c2 (by omega)
          simp only at ih
          omega
        · simp at hx
    · obtain rfl := List.mem_singleton.mp hx
      omega

theorem rch_up {s f : Int} (hs : s ≤ 6) (hf1 : 1 ≤ f) (hf4 : f ≤ 4) : ∀ (n : Nat) (t : Tw), Gd s f t → few s f t.f2 + few s f t.f3 = n → Rch f n t
  | 0, t, h, hd => by
    have h0 := h.e0
    have ha := few_lo hf1 hf4 h.a1 hs h.a0
    have hb := few_lo hf1 hf4 h.b1 hs h.b0
    exact ⟨by rw [h0]; exact ha.2.2 (by omega), by rw [h0]; exact hb.2.2 (by omega)⟩
  | n + 1, t, h, hd => by
    have h0 := h.e0
    have h2 := h.a1
    have h3 := h.b1
    have ha := few_lo hf1 hf4 h.a1 hs h.a0
    have hb := few_lo hf1 hf4 h.b1 hs h.b0
    by_cases g : t.f2 < s
    · obtain ⟨c, c1, c2, c3, c4⟩ := few_one (s := s) hf1 hf4 g
      have hx : (⟨t.f0, t.f1, t.f2 + c, t.f3⟩ : Tw) ∈ nl t c := by
        unfold nl
        rw [if_pos (.inl (by omega)), if_pos (by omega : t.f2 + c ≤ t.f0)]
        simp
      exact ⟨c, c1, c2, _, hx, rch_up hs hf1 hf4 n _ (nl_good h c1 hx) (by simp only; omega)⟩
    · have e2 : t.f2 = s := by omega
      have := few_end (s := s) hf1 hf4
      rw [e2, this] at hd
      have g3 : t.f3 < s := by
        by_cases g4 : t.f3 = s
        · rw [g4, this] at hd; omega
        · omega
      obtain ⟨c, c1, c2, c3, c4⟩ := few_one (s := s) hf1 hf4 g3
      have hx : (⟨t.f0, t.f1, t.f2, t.f3 + c⟩ : Tw) ∈ nl t c := by
        unfold nl
        rw [if_pos (.inr (by omega)), if_pos (by omega : t.f3 + c ≤ t.f0)]
        simp
      refine ⟨c, c1, c2, _, hx, rch_up hs hf1 hf4 n _ (nl_good h c1 hx) ?_⟩
      simp only
      rw [e2, this]
      omega

theorem fl0 {s f a b : Int} (hs : s ≤ 6) (hf1 : 1 ≤ f) (hf4 : f ≤ 4) (t0 : Tw) (h0 : Gd s f t0) (N : Nat) (hN : few s f t0.f2 + few s f t0.f3 = N) (hN12 : N ≤ 12) (M : Nat) (hM : M = 100000000000000) :
    ∀ (d n k : Nat) (l : List Tw), n + d = N → l.length ≤ 8 ^ n → (∀ t ∈ l, Gd s f t) → (∀ m, (∃ x ∈ l, Rch f m x) ↔ Rch f (n + m) t0) → M * d + M ≤ k → impl_twins_fewest.l0 k l (n : Int) s f a b = some (N : Int)
  | d, n, k, l, h1, h2, h3, h4, h5 => by
    obtain ⟨k, rfl⟩ : ∃ m, k = m + 1 := ⟨k - 1, by omega⟩
    have p8 : (8 : Nat) ^ n ≤ 8 ^ 12 := Nat.pow_le_pow_right (by decide) (by omega)
    have p9 : (8 : Nat) ^ 12 = 68719476736 := by simp
    obtain ⟨v, hv, hm⟩ := c37 l (by omega) k (by omega)
    simp only [impl_twins_fewest.l0]
    rw [hv]
    simp only [Option.bind_some]
    cases d with
    | zero =>
      have : v = true := by
        rw [hm]
        obtain ⟨x, hx, hr⟩ := (h4 0).mpr (by rw [Nat.add_zero, show n = N by omega]; exact rch_up hs hf1 hf4 N t0 h0 hN)
        exact ⟨x, hx, hr⟩
      rw [if_pos this, show n = N by omega]
    | succ d =>
      have : ¬ v = true := by
        rw [hm]
        rintro ⟨x, hx, hr⟩
        have := rch_low hf1 hf4 (n + 0) t0 h0 ((h4 0).mp ⟨x, hx, hr⟩)
        omega
      rw [if_neg this]
      have q3 : M * (d + 1) = M * d + M := Nat.mul_succ M d
      rw [q3] at h5
      have q4 : f.toNat * (30 * l.length + 40) ≤ 4 * (30 * l.length + 40) := Nat.mul_le_mul_right _ (by omega)
      have q5 : 2 * f.toNat * l.length ≤ 8 * l.length := Nat.mul_le_mul_right _ (by omega)
      have q6 : f.toNat * (2 * l.length + 2) ≤ 4 * (2 * l.length + 2) := Nat.mul_le_mul_right _ (by omega)
      obtain ⟨y, k', hk, hy, hym, e⟩ := fl1 hs hf4 l h3 (by omega) (n : Int) a b f.toNat 1 k [] (by omega) (by omega) (by simp only [List.length_nil]; omega) (by simp only [List.length_nil]; omega)
      rw [show ((1 : Nat) : Int) = 1 from rfl] at e
      rw [e, w64_succ (by omega)]
      refine fl0 hs hf1 hf4 t0 h0 N hN hN12 M hM d (n + 1) k' y (by omega) ?_ ?_ ?_ (by omega)
      · rw [Nat.pow_succ]
        simp only [List.length_nil] at hy
        omega
      · intro t ht
        rcases (hym t).mp ht with h | ⟨c, c1, c2, u, hu, hx⟩
        · simp at h
        · exact nl_good (h3 u hu) (by omega) hx
      · intro m
        rw [show n + 1 + m = n + (m + 1) by omega, ← h4 (m + 1)]
        constructor
        · rintro ⟨x, hx, hr⟩
          rcases (hym x).mp hx with h | ⟨c, c1, c2, u, hu, hx⟩
          · simp at h
          · exact ⟨u, hu, c, by omega, c2, x, hx, hr⟩
        · rintro ⟨u, hu, c, c1, c2, x, hx, hr⟩
          exact ⟨x, (hym x).mpr (.inr ⟨c, by omega, c2, u, hu, hx⟩), hr⟩

theorem within_some (a b c : Int) : impl_within.f a b c = some (decide (b ≤ a ∧ a ≤ c)) := by
  unfold impl_within.f
  by_cases h : a ≥ b
  · rw [if_pos h]; have h' : b ≤ a := h; simp [h']
  · rw [if_neg h]; have h' : ¬ b ≤ a := h; simp [h']

theorem l1In_some (a b c : Int) : spec_l1In.f a b c = some (decide (b ≤ a ∧ a ≤ c)) := by
  unfold spec_l1In.f
  by_cases h : a ≥ b
  · rw [if_pos h]; have h' : b ≤ a := h; simp [h']
  · rw [if_neg h]; have h' : ¬ b ≤ a := h; simp [h']

def okP (s f a b : Int) : Bool := decide (1 ≤ s ∧ s ≤ 6) && (decide (1 ≤ f ∧ f ≤ 4) && (decide (0 ≤ a ∧ a ≤ s) && decide (0 ≤ b ∧ b ≤ s)))

theorem isPair_eq (s f a b : Int) : impl_IsPair.f s f a b = some (okP s f a b) := by
  unfold impl_IsPair.f okP
  simp only [within_some, Option.bind_some]
  cases decide (1 ≤ s ∧ s ≤ 6) <;> cases decide (1 ≤ f ∧ f ≤ 4) <;> cases decide (0 ≤ a ∧ a ≤ s) <;> rfl

theorem oiGood_eq (s f a b : Int) : spec_oiGood.f s f a b = some (okP s f a b) := by
  unfold spec_oiGood.f okP
  simp only [l1In_some, Option.bind_some]
  cases decide (1 ≤ s ∧ s ≤ 6) <;> cases decide (1 ≤ f ∧ f ≤ 4) <;> cases decide (0 ≤ a ∧ a ≤ s) <;> rfl

theorem oiFew_eq {s f a : Int} (hf1 : 1 ≤ f) (hf4 : f ≤ 4) (ha : a ≤ s) (hs : s ≤ 6) (h0 : 0 ≤ a) : spec_oiFew.f s f a = some (few s f a) := by
  have hl := few_lo hf1 hf4 ha hs h0
  unfold spec_oiFew.f
  rw [if_neg (by omega), w64 (s - a) (by omega) (by omega), w64 (s - a + f) (by omega) (by omega), w64 (s - a + f - 1) (by omega) (by omega), Int.tdiv_eq_ediv_of_nonneg (by omega)]
  show some (wrap64 (few s f a)) = _
  rw [w64 _ (by omega) (by omega)]

theorem FnExactPairFewest : laws_FnExactPairFewest.Pure := by
  intro s f a b _ _ _ _
  by_cases h : okP s f a b = true
  · have hh := h
    unfold okP at hh
    simp only [Bool.and_eq_true, decide_eq_true_eq] at hh
    obtain ⟨⟨s1, s2⟩, ⟨f1, f2⟩, ⟨a1, a2⟩, b1, b2⟩ := hh
    have hg : Gd s f (⟨s, f, a, b⟩ : Tw) := ⟨rfl, rfl, a1, a2, b1, b2⟩
    have ha := few_lo f1 f2 a2 s2 a1
    have hb := few_lo f1 f2 b2 s2 b1
    obtain ⟨N, hN⟩ : ∃ N : Nat, few s f a + few s f b = N := ⟨(few s f a + few s f b).toNat, by omega⟩
    have e := fl0 (a := a) (b := b) s2 f1 f2 ⟨s, f, a, b⟩ hg N hN (by omega) 100000000000000 rfl N 0 2000000000000000 [⟨s, f, a, b⟩] (by omega) (by simp) (fun t ht => by rw [List.mem_singleton.mp ht]; exact hg) (fun m => by rw [Nat.zero_add]; simp) (by omega)
    refine ⟨2000000000000000, ?_⟩
    unfold laws_FnExactPairFewest.f spec_PairFewest.f impl_PairFewest.f impl_twinsOf.f impl_twins_fewest.f
    rw [oiGood_eq, isPair_eq, h]
    simp only [Option.bind_some]
    simp only [if_true]
    rw [oiFew_eq f1 f2 a2 s2 a1, oiFew_eq f1 f2 b2 s2 b1]
    simp only [Option.bind_some]
    rw [show ((0 : Nat) : Int) = 0 from rfl] at e
    rw [e]
    simp only [Option.bind_some]
    rw [hN, w64 _ (by omega) (by omega)]
    simp
  · refine ⟨0, ?_⟩
    unfold laws_FnExactPairFewest.f spec_PairFewest.f impl_PairFewest.f impl_twinsOf.f
    rw [oiGood_eq, isPair_eq]
    simp only [Option.bind_some]
    rw [if_neg h, if_neg h]
    rfl

end Go.Proofs.Ytogfijfhjdjhpaa.Pure
