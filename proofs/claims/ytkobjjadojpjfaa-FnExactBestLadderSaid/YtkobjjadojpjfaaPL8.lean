/- Proved here: the fewest throws from each square, as the program and as the reference find them; the conditions are a board's own bounds. -/
import Derived.Test.YtkobjjadojpjfaaPL3
import Derived.Test.YtkobjjadojpjfaaHRepeat
import Derived.Test.YtkobjjadojpjfaaFImplBoardFar
import Derived.Test.YtkobjjadojpjfaaFSpecSqFar
namespace Go.Proofs.Ytkobjjadojpjfaa.Pr
open Go.RowKit Go.Proofs.YtkobjjadojpjfaaW.PrintWords Go.Proofs.YtkobjjadojpjfaaW.PrintLast Go.Proofs.YtkobjjadojpjfaaW.PrintMore
set_option linter.unusedVariables false
set_option linter.unusedSimpArgs false

/-! #### the table, told by what it holds -/
structure Far (a b c : Int) (l : List S27) (T : List Int) : Prop where
  len : T.length = (a + 1).toNat
  lo : ∀ i : Int, 0 ≤ i → i ≤ a → -1 ≤ rd T i
  last : rd T a = 0
  hi : ∀ i : Int, 0 ≤ i → i ≤ a → rd T i ≤ 1000
  down : ∀ i : Int, 0 ≤ i → i < a → 0 ≤ rd T i → sqr a l i = true ∧ ∃ f : Int, 1 ≤ f ∧ f ≤ b ∧ 0 ≤ rd T (thr a c l i f) ∧ rd T (thr a c l i f) + 1 = rd T i
  up : ∀ i f : Int, 0 ≤ i → i < a → sqr a l i = true → 1 ≤ f → f ≤ b → 0 ≤ rd T (thr a c l i f) → 0 ≤ rd T i ∧ rd T i ≤ rd T (thr a c l i f) + 1

theorem Far.le {a b c : Int} {l : List S27} (B : Board a b c l) {T U : List Int} (hT : Far a b c l T) (hU : Far a b c l U) : ∀ (n : Nat) (i : Int), 0 ≤ i → i ≤ a → rd T i = n → 0 ≤ rd U i ∧ rd U i ≤ rd T i
  | n, i, h0, h1, hn => by
    by_cases hi : i = a
    · rw [hi, hU.last, hT.last]; omega
    · obtain ⟨hs, f, f1, f2, f3, f4⟩ := hT.down i h0 (by omega) (by omega)
      have hq := sqr_le (B.thr_sqr i f hs f1 f2)
      obtain ⟨g1, g2⟩ := Far.le B hT hU (n - 1) (thr a c l i f) hq.1 hq.2 (by omega)
      have := hU.up i f h0 (by omega) hs f1 f2 g1
      omega
  termination_by n => n
  decreasing_by omega

theorem rd_ext {T U : List Int} (hl : T.length = U.length) (h : ∀ i : Nat, i < T.length → rd T (i : Int) = rd U (i : Int)) : T = U := by
  refine List.ext_getElem hl fun i h1 h2 => ?_
  have := h i h1
  rw [rd_at h1, rd_at h2] at this
  exact this

theorem Far.unique {a b c : Int} {l : List S27} (B : Board a b c l) {T U : List Int} (hT : Far a b c l T) (hU : Far a b c l U) : T = U := by
  have := B.a1
  refine rd_ext (by rw [hT.len, hU.len]) fun i hi => ?_
  rw [hT.len] at hi
  have l1 := hT.lo i (by omega) (by omega)
  have l2 := hU.lo i (by omega) (by omega)
  by_cases h1 : 0 ≤ rd T (i : Int)
  · have a1 := Far.le B hT hU (rd T (i : Int)).toNat i (by omega) (by omega) (by omega)
    have a2 := Far.le B hU hT (rd U (i : Int)).toNat i (by omega) (by omega) (by omega)
    omega
  · by_cases h2 : 0 ≤ rd U (i : Int)
    · have a2 := Far.le B hU hT (rd U (i : Int)).toNat i (by omega) (by omega) (by omega)
      omega
    · omega

/-! #### small laws -/
theorem rd_set {T : List Int} {i : Nat} {v j : Int} (hj : 0 ≤ j) (hi : i < T.length) : rd (T.set i v) j = if j = (i : Int) then v else rd T j := by
  obtain ⟨m, rfl⟩ := Int.eq_ofNat_of_zero_le hj
  by_cases h : m = i
  · subst h
    rw [if_pos rfl, rd_at (by rw [List.length_set]; exact hi)]
    simp
  · rw [if_neg (by omega)]
    simp only [rd, List.getD, Int.toNat_natCast]
    rw [List.getElem?_set_ne (by omega)]

theorem mem_lands {a c : Int} {l : List S27} {s t : Int} : ∀ (d i : Nat), t ∈ lands a c l s i d ↔ ∃ f : Nat, i ≤ f ∧ f < i + d ∧ t = thr a c l s (f : Int)
  | 0, i => by simp [lands]; omega
  | d + 1, i => by
    unfold lands
    rw [List.mem_cons, mem_lands d (i + 1)]
    constructor
    · rintro (h | ⟨f, h1, h2, h3⟩)
      · exact ⟨i, by omega, by omega, h⟩
      · exact ⟨f, by omega, by omega, h3⟩
    · rintro ⟨f, h1, h2, h3⟩
      by_cases h : f = i
      · left; rw [h3, h]
      · right; exact ⟨f, by omega, by omega, h3⟩

theorem Board.mem_lands {a b c : Int} {l : List S27} (B : Board a b c l) {s t : Int} : t ∈ lands a c l s 1 b.toNat ↔ ∃ f : Int, 1 ≤ f ∧ f ≤ b ∧ t = thr a c l s f := by
  have := B.b1
  rw [Pr.mem_lands]
  constructor
  · rintro ⟨f, h1, h2, h3⟩
    exact ⟨f, by omega, by omega, h3⟩
  · rintro ⟨f, h1, h2, h3⟩
    exact ⟨f.toNat, by omega, by omega, by rw [h3, show ((f.toNat : Nat) : Int) = f by omega]⟩

def negs (T : List Int) : Nat := T.countP (fun x => decide (x < 0))

theorem negs_set {T : List Int} {i : Nat} {v : Int} (hi : i < T.length) (h0 : rd T (i : Int) < 0) (hv : 0 ≤ v) : negs (T.set i v) + 1 = negs T := by
  rw [rd_at hi] at h0
  unfold negs
  have hp : 0 < T.countP (fun x => decide (x < 0)) := List.countP_pos_iff.mpr ⟨T[i], List.getElem_mem hi, decide_eq_true h0⟩
  rw [List.countP_set hi, decide_eq_true h0, decide_eq_false (by omega)]
  simp
  omega

/-! #### the program's rounds -/
def anyR (T : List Int) (r : Int) (ts : List Int) : Bool := ts.any (fun t => rd T t == r)

theorem far_l2 {a b c : Int} {l : List S27} (B : Board a b c l) (r : Int) (hr0 : 0 ≤ r) (hr1 : r ≤ 1000) (i : Nat) (hi : (i : Int) < a) (ts : List Int) (hts : ∀ t ∈ ts, 0 ≤ t ∧ t ≤ a) (htl : ts.length ≤ 8) : ∀ (d j k : Nat) (T : List Int) (ch : Bool), j + d = ts.length → d < k → T.length = (a + 1).toNat →
    ∃ k', k ≤ k' + d + 1 ∧ impl_Board_far.l2 k T r ch (i : Int) a (i : Int) ts (ts.length : Int) (j : Int) a b c l = impl_Board_far.l1 k' (if anyR T r (ts.drop j) = true then T.set i (r + 1) else T) r (ch || anyR T r (ts.drop j)) a ((i + 1 : Nat) : Int) a b c l
  | 0, j, k, T, ch, h1, h2, h3 => by
    obtain ⟨k, rfl⟩ : ∃ m, k = m + 1 := ⟨k - 1, by omega⟩
    have := B.a2
    refine ⟨k, by omega, ?_⟩
    simp only [impl_Board_far.l2]
    rw [if_neg (by omega), List.drop_of_length_le (by omega), w64_succ (by omega)]
    simp [anyR]
  | d + 1, j, k, T, ch, h1, h2, h3 => by
    obtain ⟨k, rfl⟩ : ∃ m, k = m + 1 := ⟨k - 1, by omega⟩
    have := B.a2
    have hj : j < ts.length := by omega
    have ht := hts ts[j] (List.getElem_mem hj)
    have hd : anyR T r (ts.drop j) = ((rd T ts[j] == r) || anyR T r (ts.drop (j + 1))) := by rw [List.drop_eq_getElem_cons hj]; rfl
    simp only [impl_Board_far.l2]
    rw [if_pos (nat_lt hj), if_pos (nat_nn j), if_pos (nat_lt hj), rd_at hj, if_pos ht.1, if_pos (by omega), w64_succ (by omega), hd]
    by_cases hm : rd T ts[j] = r
    · obtain ⟨k', hk', e⟩ := far_l2 B r hr0 hr1 i hi ts hts htl d (j + 1) k (T.set i (r + 1)) true (by omega) (by omega) (by rw [List.length_set]; exact h3)
      refine ⟨k', by omega, ?_⟩
      rw [if_pos hm, if_pos (by omega), if_pos (by omega), w64 (r + 1) (by omega) (by omega), Int.toNat_natCast, e, beq_iff_eq.mpr hm, List.set_set, ite_self]
      simp
    · obtain ⟨k', hk', e⟩ := far_l2 B r hr0 hr1 i hi ts hts htl d (j + 1) k T ch (by omega) (by omega) h3
      refine ⟨k', by omega, ?_⟩
      rw [if_neg hm, e, beq_eq_false_iff_ne.mpr hm, Bool.false_or]

def stepT (a b c : Int) (l : List S27) (r : Int) (T : List Int) (i : Nat) : List Int × Bool :=
  if 0 ≤ rd T (i : Int) then (T, false) else if sqr a l (i : Int) = false then (T, false) else if anyR T r (lands a c l (i : Int) 1 b.toNat) = true then (T.set i (r + 1), true) else (T, false)

theorem far_l1 {a b c : Int} {l : List S27} (B : Board a b c l) (r : Int) (hr0 : 0 ≤ r) (hr1 : r ≤ 1000) (i : Nat) (hi : (i : Int) < a) (k : Nat) (hk : 60 ≤ k) (T : List Int) (ch : Bool) (hT : T.length = (a + 1).toNat) :
    ∃ k', k ≤ k' + 14 ∧ impl_Board_far.l1 k T r ch a (i : Int) a b c l = impl_Board_far.l1 k' (stepT a b c l r T i).1 r (ch || (stepT a b c l r T i).2) a ((i + 1 : Nat) : Int) a b c l := by
  have := B.a1; have := B.a2; have := B.b1; have := B.b2
  obtain ⟨k, rfl⟩ : ∃ m, k = m + 1 + 1 := ⟨k - 2, by omega⟩
  have hskip : ∀ x : Bool, impl_Board_far.j2 (k + 1) T r ch (i : Int) a (i : Int) x a b c l = if x = true then impl_Board_far.l1 k T r ch a (wrap64 ((i : Int) + 1)) a b c l else (impl_Board_landings.f k a b c l (i : Int)).bind fun ts => impl_Board_far.l2 k T r ch (i : Int) a (i : Int) ts (ts.length : Int) 0 a b c l := fun x => by simp only [impl_Board_far.j2]
  simp only [impl_Board_far.l1]
  rw [if_pos hi, if_pos (nat_nn i), if_pos (by omega), isSquare_eq B i (k + 1) (by omega)]
  simp only [Option.bind_some, hskip]
  unfold stepT
  by_cases h0 : 0 ≤ rd T (i : Int)
  · refine ⟨k, by omega, ?_⟩
    rw [if_pos h0, if_pos trivial, if_pos h0, w64_succ (by omega), Bool.or_false]
  · rw [if_neg h0]
    cases hs : sqr a l (i : Int) with
    | false =>
      refine ⟨k, by omega, ?_⟩
      rw [if_pos (show (!false) = true from rfl), if_neg h0, if_pos rfl, w64_succ (by omega), Bool.or_false]
    | true =>
      rw [if_neg (show ¬ (!true) = true by decide), if_neg h0, if_neg (show ¬ (true = false) by decide), landings_eq B i (by omega) (by omega) k (by omega)]
      simp only [Option.bind_some]
      have hL : ∀ t ∈ lands a c l (i : Int) 1 b.toNat, 0 ≤ t ∧ t ≤ a := fun t ht => by have := B.lands_lt (i : Int) (by omega) (by omega) t ht; omega
      obtain ⟨k', hk', e⟩ := far_l2 B r hr0 hr1 i hi _ hL (by rw [lands_length]; omega) b.toNat 0 k T ch (by rw [lands_length]; omega) (by omega) hT
      refine ⟨k', by omega, ?_⟩
      rw [show ((0 : Nat) : Int) = 0 from rfl] at e
      rw [e, List.drop_zero]
      by_cases hm : anyR T r (lands a c l (i : Int) 1 b.toNat) = true
      · rw [if_pos hm, if_pos hm, hm]
      · rw [if_neg hm, if_neg hm]
        rw [Bool.not_eq_true] at hm
        rw [hm]

/-- between two squares of a round -/
structure Mid (a b c : Int) (l : List S27) (r : Int) (i : Nat) (T : List Int) : Prop where
  len : T.length = (a + 1).toNat
  lo : ∀ j : Int, 0 ≤ j → j ≤ a → -1 ≤ rd T j
  hi : ∀ j : Int, 0 ≤ j → j ≤ a → rd T j ≤ r + 1
  last : rd T a = 0
  down : ∀ j : Int, 0 ≤ j → j < a → 0 ≤ rd T j → sqr a l j = true ∧ ∃ f : Int, 1 ≤ f ∧ f ≤ b ∧ 0 ≤ rd T (thr a c l j f) ∧ rd T (thr a c l j f) + 1 = rd T j
  up : ∀ j f : Int, 0 ≤ j → j < a → sqr a l j = true → 1 ≤ f → f ≤ b → 0 ≤ rd T (thr a c l j f) → rd T (thr a c l j f) < r → 0 ≤ rd T j ∧ rd T j ≤ rd T (thr a c l j f) + 1
  done : ∀ j f : Int, 0 ≤ j → j < i → j < a → sqr a l j = true → 1 ≤ f → f ≤ b → rd T (thr a c l j f) = r → 0 ≤ rd T j

theorem Mid.step {a b c : Int} {l : List S27} (B : Board a b c l) {r : Int} (hr0 : 0 ≤ r) {i : Nat} {T : List Int} (h : Mid a b c l r i T) (hi : (i : Int) < a) :
    Mid a b c l r (i + 1) (stepT a b c l r T i).1 ∧ ((stepT a b c l r T i).2 = false → (stepT a b c l r T i).1 = T) ∧ ((stepT a b c l r T i).2 = true → negs (stepT a b c l r T i).1 + 1 = negs T) := by
  have same : (∀ f : Int, sqr a l (i : Int) = true → 1 ≤ f → f ≤ b → rd T (thr a c l (i : Int) f) = r → 0 ≤ rd T (i : Int)) → Mid a b c l r (i + 1) T := fun hd => by
    refine { h with done := fun j f j0 j1 j2 js f1 f2 hf => ?_ }
    by_cases hj : j = (i : Int)
    · subst hj; exact hd f js f1 f2 hf
    · exact h.done j f j0 (by omega) j2 js f1 f2 hf
  unfold stepT
  by_cases h0 : 0 ≤ rd T (i : Int)
  · rw [if_pos h0]
    exact ⟨same fun _ _ _ _ _ => h0, fun _ => rfl, fun e => by cases e⟩
  · rw [if_neg h0]
    cases hs : sqr a l (i : Int) with
    | false =>
      rw [if_pos rfl]
      exact ⟨same fun f js => (by rw [hs] at js; cases js), fun _ => rfl, fun e => by cases e⟩
    | true =>
      rw [if_neg (by decide)]
      by_cases hm : anyR T r (lands a c l (i : Int) 1 b.toNat) = true
      · rw [if_pos hm]
        have hil : i < T.length := by rw [h.len]; omega
        have hi0 := h.lo i (by omega) (by omega)
        unfold anyR at hm
        obtain ⟨t, ht, htr⟩ := List.any_eq_true.mp hm
        rw [beq_iff_eq] at htr
        obtain ⟨g, g1, g2, rfl⟩ := B.mem_lands.mp ht
        have hset : ∀ j : Int, 0 ≤ j → rd (T.set i (r + 1)) j = if j = (i : Int) then r + 1 else rd T j := fun j hj => rd_set hj hil
        have hq := fun (j f : Int) (js : sqr a l j = true) (f1 : 1 ≤ f) (f2 : f ≤ b) => sqr_le (B.thr_sqr j f js f1 f2)
        refine ⟨⟨by rw [List.length_set]; exact h.len, fun j j0 j1 => ?_, fun j j0 j1 => ?_, ?_, fun j j0 j1 jn => ?_, fun j f j0 j1 js f1 f2 jn jr => ?_, fun j f j0 ji j1 js f1 f2 hf => ?_⟩, fun e => (by cases e), fun _ => negs_set hil (by omega) (by omega)⟩
        · rw [hset j j0]; split
          · omega
          · exact h.lo j j0 j1
        · rw [hset j j0]; split
          · omega
          · exact h.hi j j0 j1
        · rw [hset a (by omega), if_neg (by omega)]; exact h.last
        · by_cases hj : j = (i : Int)
          · subst hj
            refine ⟨hs, g, g1, g2, ?_⟩
            have hne : thr a c l (i : Int) g ≠ (i : Int) := fun e => by rw [e] at htr; omega
            rw [hset _ (hq _ g hs g1 g2).1, if_neg hne, hset _ j0, if_pos rfl, htr]
            omega
          · rw [hset j j0, if_neg hj] at jn ⊢
            obtain ⟨js, f, f1, f2, f3, f4⟩ := h.down j j0 j1 jn
            refine ⟨js, f, f1, f2, ?_⟩
            have hne : thr a c l j f ≠ (i : Int) := fun e => by rw [e] at f3; omega
            rw [hset _ (hq j f js f1 f2).1, if_neg hne]
            exact ⟨f3, f4⟩
        · have hne : thr a c l j f ≠ (i : Int) := fun e => by
            rw [hset _ (hq j f js f1 f2).1, if_pos e] at jr; omega
          rw [hset _ (hq j f js f1 f2).1, if_neg hne] at jn jr ⊢
          have := h.up j f j0 j1 js f1 f2 jn jr
          rw [hset j j0]
          split
          · rename_i e; rw [e] at this; omega
          · exact this
        · have hne : thr a c l j f ≠ (i : Int) := fun e => by
            rw [hset _ (hq j f js f1 f2).1, if_pos e] at hf; omega
          rw [hset _ (hq j f js f1 f2).1, if_neg hne] at hf
          rw [hset j j0]
          split
          · omega
          · rename_i e; exact h.done j f j0 (by omega) j1 js f1 f2 hf
      · rw [if_neg hm]
        refine ⟨same fun f js f1 f2 hf => ?_, fun _ => rfl, fun e => by cases e⟩
        refine absurd ?_ hm
        unfold anyR
        exact List.any_eq_true.mpr ⟨_, B.mem_lands.mpr ⟨f, f1, f2, rfl⟩, beq_iff_eq.mpr hf⟩

/-- a round, from square i on -/
theorem far_round {a b c : Int} {l : List S27} (B : Board a b c l) (r : Int) (hr0 : 0 ≤ r) (hr1 : r ≤ 1000) : ∀ (d i : Nat) (T : List Int) (ch : Bool), i + d = a.toNat → Mid a b c l r i T →
    ∃ U ch', Mid a b c l r a.toNat U ∧ negs U ≤ negs T ∧ (ch' = false → ch = false ∧ U = T) ∧ (ch' = true → ch = true ∨ negs U < negs T) ∧ ∀ k, 14 * d + 70 ≤ k → ∃ k', k ≤ k' + 14 * d + 1 ∧ impl_Board_far.l1 k T r ch a (i : Int) a b c l = impl_Board_far.l0 k' U (r + 1) ch' a b c l
  | 0, i, T, ch, h1, h => by
    have := B.a1
    refine ⟨T, ch, ?_, Nat.le_refl _, fun e => ⟨e, rfl⟩, fun e => .inl e, fun k hk => ?_⟩
    · rw [show a.toNat = i by omega]; exact h
    · obtain ⟨k, rfl⟩ : ∃ m, k = m + 1 := ⟨k - 1, by omega⟩
      refine ⟨k, by omega, ?_⟩
      simp only [impl_Board_far.l1]
      rw [if_neg (by omega), w64 (r + 1) (by omega) (by omega)]
  | d + 1, i, T, ch, h1, h => by
    have := B.a1
    obtain ⟨s1, s2, s3⟩ := h.step B hr0 (by omega)
    obtain ⟨U, ch', u1, u2, u3, u4, u5⟩ := far_round B r hr0 hr1 d (i + 1) (stepT a b c l r T i).1 (ch || (stepT a b c l r T i).2) (by omega) s1
    have hle : negs (stepT a b c l r T i).1 ≤ negs T := by
      cases e : (stepT a b c l r T i).2 with
      | false => rw [s2 e]; exact Nat.le_refl _
      | true => have := s3 e; omega
    refine ⟨U, ch', u1, by omega, fun e => ?_, fun e => ?_, fun k hk => ?_⟩
    · obtain ⟨e1, e2⟩ := u3 e
      rw [Bool.or_eq_false_iff] at e1
      exact ⟨e1.1, by rw [e2, s2 e1.2]⟩
    · rcases u4 e with e1 | e1
      · rw [Bool.or_eq_true] at e1
        rcases e1 with e1 | e1
        · exact .inl e1
        · have := s3 e1; right; omega
      · right; omega
    · obtain ⟨k1, hk1, e1⟩ := far_l1 B r hr0 hr1 i (by omega) k (by omega) T ch h.len
      obtain ⟨k2, hk2, e2⟩ := u5 k1 (by omega)
      exact ⟨k2, by omega, by rw [e1, e2]⟩

theorem far_l0 {a b c : Int} {l : List S27} (B : Board a b c l) : ∀ (d : Nat) (r : Int) (T : List Int), 0 ≤ r → r + d ≤ 500 → negs T ≤ d → Mid a b c l r 0 T → (∀ j : Int, 0 ≤ j → j ≤ a → rd T j ≤ r) →
    ∃ U, Far a b c l U ∧ ∀ k, 1500 * (d + 1) ≤ k → impl_Board_far.l0 k T r true a b c l = some U
  | d, r, T, hr0, hr1, hn, h, hT => by
    have := B.a1; have := B.a2
    obtain ⟨U, ch', u1, u2, u3, u4, u5⟩ := far_round B r hr0 (by omega) a.toNat 0 T false (by omega) h
    cases ch' with
    | false =>
      obtain ⟨-, rfl⟩ := u3 rfl
      refine ⟨U, ⟨u1.len, u1.lo, u1.last, fun i i0 i1 => by have := hT i i0 i1; omega, u1.down, fun i f i0 i1 hs f1 f2 h0 => ?_⟩, fun k hk => ?_⟩
      · have hq := sqr_le (B.thr_sqr i f hs f1 f2)
        have := hT _ hq.1 hq.2
        have := hT i i0 (by omega)
        by_cases hlt : rd U (thr a c l i f) < r
        · exact u1.up i f i0 i1 hs f1 f2 h0 hlt
        · have := u1.done i f i0 (by omega) i1 hs f1 f2 (by omega)
          omega
      · obtain ⟨k, rfl⟩ : ∃ m, k = m + 1 := ⟨k - 1, by omega⟩
        simp only [impl_Board_far.l0]
        obtain ⟨k', hk', e⟩ := u5 k (by omega)
        obtain ⟨k', rfl⟩ : ∃ m, k' = m + 1 := ⟨k' - 1, by omega⟩
        rw [show ((0 : Nat) : Int) = 0 from rfl] at e
        rw [if_pos trivial, e]
        simp only [impl_Board_far.l0]
        rfl
    | true =>
      have hlt : negs U < negs T := by
        rcases u4 rfl with e | e
        · cases e
        · exact e
      match d, hn, hr1 with
      | 0, hn, hr1 => omega
      | d + 1, hn, hr1 =>
        obtain ⟨V, v1, v2⟩ := far_l0 B d (r + 1) U (by omega) (by omega) (by omega) ⟨u1.len, u1.lo, fun j j0 j1 => by have := u1.hi j j0 j1; omega, u1.last, u1.down, fun j f j0 j1 js f1 f2 h0 hlt => by
          by_cases hl : rd U (thr a c l j f) < r
          · exact u1.up j f j0 j1 js f1 f2 h0 hl
          · have := u1.done j f j0 (by omega) j1 js f1 f2 (by omega)
            have := u1.hi j j0 (by omega)
            omega, fun j f j0 ji => by omega⟩ u1.hi
        refine ⟨V, v1, fun k hk => ?_⟩
        obtain ⟨k, rfl⟩ : ∃ m, k = m + 1 := ⟨k - 1, by omega⟩
        simp only [impl_Board_far.l0]
        obtain ⟨k', hk', e⟩ := u5 k (by omega)
        rw [show ((0 : Nat) : Int) = 0 from rfl] at e
        rw [if_pos trivial, e]
        exact v2 k' (by omega)

theorem implFar_eq {a b c : Int} {l : List S27} (B : Board a b c l) : ∃ U, Far a b c l U ∧ ∀ k, 200000 ≤ k → impl_Board_far.f k a b c l = some U := by
  have := B.a1; have := B.a2
  have hrep : (List.replicate (a + 1).toNat (-1 : Int)).length = (a + 1).toNat := List.length_replicate
  have hrd : ∀ j : Int, 0 ≤ j → j ≤ a → rd (List.replicate (a + 1).toNat (-1 : Int)) j = -1 := fun j j0 j1 => by
    rw [show j = (j.toNat : Int) by omega, rd_at (by rw [hrep]; omega)]
    simp
  have hset : ∀ j : Int, 0 ≤ j → rd ((List.replicate (a + 1).toNat (-1 : Int)).set a.toNat 0) j = if j = (a.toNat : Int) then 0 else rd (List.replicate (a + 1).toNat (-1 : Int)) j := fun j hj => rd_set hj (by rw [hrep]; omega)
  have hall : ∀ j : Int, 0 ≤ j → j ≤ a → rd ((List.replicate (a + 1).toNat (-1 : Int)).set a.toNat 0) j = if j = a then 0 else -1 := fun j j0 j1 => by
    rw [hset j j0, hrd j j0 j1, show ((a.toNat : Nat) : Int) = a by omega]
  obtain ⟨U, hU, hk⟩ := far_l0 B 101 0 ((List.replicate (a + 1).toNat (-1 : Int)).set a.toNat 0) (by omega) (by omega) (Nat.le_trans List.countP_le_length (by rw [List.length_set, hrep]; omega))
    ⟨by rw [List.length_set, hrep], fun j j0 j1 => by rw [hall j j0 j1]; split <;> omega, fun j j0 j1 => by rw [hall j j0 j1]; split <;> omega, by rw [hall a (by omega) (by omega), if_pos rfl],
      fun j j0 j1 jn => by rw [hall j j0 (by omega), if_neg (by omega)] at jn; omega, fun j f j0 j1 js f1 f2 h0 hlt => by omega, fun j f j0 ji => by omega⟩
    (fun j j0 j1 => by rw [hall j j0 j1]; split <;> omega)
  refine ⟨U, hU, fun k hk' => ?_⟩
  unfold impl_Board_far.f slices_Repeat_int_int.f
  rw [w64 (a + 1) (by omega) (by omega)]
  simp only []
  rw [if_pos (by omega)]
  simp only [Option.bind_some]
  rw [if_pos (by omega), if_pos (by rw [hrep]; omega)]
  exact hk k (by omega)

end Go.Proofs.Ytkobjjadojpjfaa.Pr
