/- Proved here: the law FnExactBestLadder answers true at all that comes in; no other condition. -/
import Derived.Test.YtkobjjadojpjfaaSFnExactBestLadder
import Derived.Test.YtkobjjadojpjfaaPL10
import Derived.Test.YtkobjjadojpjfaaPL13
import Derived.Test.YtkobjjadojpjfaaPL15
import Derived.Test.YtkobjjadojpjfaaPL16
namespace Go.Proofs.Ytkobjjadojpjfaa.Pure
open Go.RowKit Go.Proofs.Ytkobjjadojpjfaa.Pr Go.Proofs.YtkobjjadojpjfaaW.PrintWords Go.Proofs.YtkobjjadojpjfaaW.PrintLast
set_option linter.unusedSimpArgs false
set_option linter.unusedVariables false

abbrev Jm := S27
abbrev Bo := S32

/-! #### which ladders can be put, and the best of some -/
def oki (l : List Jm) (i : Int) : Bool := !(beg l i).2 && !(l.any fun y => y.f1 == i)
def okj (l : List Jm) (j : Int) : Bool := !(beg l j).2

def cj (l : List Jm) (i : Int) : Nat → Int → List Jm
  | 0, _ => []
  | d + 1, j => if oki l i = true ∧ okj l j = true then ⟨i, j⟩ :: cj l i d (j + 1) else cj l i d (j + 1)

theorem cj_none (l : List Jm) (i : Int) (h : ¬ oki l i = true) : ∀ d j, cj l i d j = []
  | 0, _ => rfl
  | d + 1, j => by
    unfold cj
    rw [if_neg (fun e => h e.1), cj_none l i h d (j + 1)]

def ci (a : Int) (l : List Jm) : Nat → Int → List Jm
  | 0, _ => []
  | d + 1, i => cj l i (a - i).toNat (i + 1) ++ ci a l d (i + 1)

def tab (a b c : Int) (l : List Jm) (p : Jm) : List Int := (impl_Board_far.f 600000 a b c (insL p l)).getD []

def stp (a b c : Int) (l : List Jm) (st : Int × Int × Int) (p : Jm) : Int × Int × Int :=
  if rd (tab a b c l p) 0 ≥ 0 then (if st.1 < 0 then (rd (tab a b c l p) 0, p.f0, p.f1) else if rd (tab a b c l p) 0 < st.1 then (rd (tab a b c l p) 0, p.f0, p.f1) else st) else st

def fin (st : Int × Int × Int) : Int × Int × Int × Bool := if st.1 < 0 then (0, 0, 0, false) else (st.2.1, st.2.2, st.1, true)

theorem tab_eq {a b c : Int} {l : List Jm} {p : Jm} (B : Board a b c (insL p l)) (k : Nat) (hk : 600000 ≤ k) : impl_Board_far.f k a b c (insL p l) = some (tab a b c l p) ∧ spec_sqFar.f k a b c (insL p l) = some (tab a b c l p) ∧ 0 < ((tab a b c l p).length : Int) := by
  obtain ⟨U, hU, h⟩ := far_eq B
  have e : tab a b c l p = U := by
    unfold tab
    rw [(h 600000 (Nat.le_refl _)).1]
    rfl
  have := B.a1
  have hl := hU.len
  rw [e]
  exact ⟨(h k hk).1, (h k hk).2, by omega⟩

theorem ok_iff {a b c : Int} {l : List Jm} (h : good a b c l = true) (hl : l.length < 20) (i j : Int) (h1 : 1 ≤ i) (h2 : i < j) (h3 : j ≤ a) : good a b c (insL ⟨i, j⟩ l) = true ↔ (oki l i = true ∧ okj l j = true) := by
  rw [good_ins h hl i j h1 h2 h3]
  unfold oki okj
  simp

/-! #### the reference -/
theorem spec_l1 {a b c : Int} {l : List Jm} (h : good a b c l = true) (hl : l.length < 20) (i : Int) (h1 : 1 ≤ i) : ∀ (d k : Nat) (j : Int) (st : Int × Int × Int), j + d = a + 1 → i < j → 600100 + d < k →
    ∃ k', k ≤ k' + d + 1 ∧ spec_BestLadder.l1 k st.1 i j a b c l st.2.1 st.2.2 = spec_BestLadder.l0 k' ((cj l i d j).foldl (stp a b c l) st).1 (i + 1) a b c l ((cj l i d j).foldl (stp a b c l) st).2.1 ((cj l i d j).foldl (stp a b c l) st).2.2
  | 0, k, j, st, g1, g2, g3 => by
    obtain ⟨k, rfl⟩ : ∃ m, k = m + 1 := ⟨k - 1, by omega⟩
    have B := Board.of_good h
    have := B.a2
    refine ⟨k, by omega, ?_⟩
    simp only [spec_BestLadder.l1]
    rw [if_neg (by omega), w64 (i + 1) (by omega) (by omega)]
    rfl
  | d + 1, k, j, st, g1, g2, g3 => by
    obtain ⟨k, rfl⟩ : ∃ m, k = m + 1 := ⟨k - 1, by omega⟩
    have B := Board.of_good h
    have := B.a2
    simp only [spec_BestLadder.l1]
    rw [if_pos (by omega), sqWith_eq a b c l (by omega) i j k (by omega)]
    simp only [Option.bind_some]
    rw [sqGood_eq a b c _ k (by omega), w64 (j + 1) (by omega) (by omega)]
    simp only [Option.bind_some]
    unfold cj
    by_cases ho : oki l i = true ∧ okj l j = true
    · have hg := (ok_iff h hl i j h1 g2 (by omega)).mpr ho
      obtain ⟨e1, e2, e3⟩ := tab_eq (Board.of_good hg) k (by omega)
      obtain ⟨k', hk', e⟩ := spec_l1 h hl i h1 d k (j + 1) (stp a b c l st ⟨i, j⟩) (by omega) (by omega) (by omega)
      refine ⟨k', by omega, ?_⟩
      rw [if_pos hg, if_pos ho, e2]
      simp only [Option.bind_some, List.foldl_cons]
      rw [if_pos e3, ← e]
      unfold stp
      split
      · split
        · rfl
        · split <;> rfl
      · rfl
    · have hg : ¬ good a b c (insL ⟨i, j⟩ l) = true := fun e => ho ((ok_iff h hl i j h1 g2 (by omega)).mp e)
      obtain ⟨k', hk', e⟩ := spec_l1 h hl i h1 d k (j + 1) st (by omega) (by omega) (by omega)
      refine ⟨k', by omega, ?_⟩
      rw [if_neg hg, if_neg ho, e]

theorem spec_l0 {a b c : Int} {l : List Jm} (h : good a b c l = true) (hl : l.length < 20) : ∀ (d k : Nat) (i : Int) (st : Int × Int × Int), i + d = a → 1 ≤ i → 610000 + 200 * d < k →
    spec_BestLadder.l0 k st.1 i a b c l st.2.1 st.2.2 = some (fin ((ci a l d i).foldl (stp a b c l) st))
  | 0, k, i, st, g1, g2, g3 => by
    obtain ⟨k, rfl⟩ : ∃ m, k = m + 1 := ⟨k - 1, by omega⟩
    simp only [spec_BestLadder.l0]
    rw [if_neg (by omega)]
    unfold fin
    show _ = some (if st.1 < 0 then _ else _)
    split <;> rfl
  | d + 1, k, i, st, g1, g2, g3 => by
    obtain ⟨k, rfl⟩ : ∃ m, k = m + 1 := ⟨k - 1, by omega⟩
    have B := Board.of_good h
    have := B.a2
    obtain ⟨k', hk', e⟩ := spec_l1 h hl i g2 (a - i).toNat k (i + 1) st (by omega) (by omega) (by omega)
    simp only [spec_BestLadder.l0]
    rw [if_pos (by omega), w64 (i + 1) (by omega) (by omega), e, spec_l0 h hl d k' (i + 1) _ (by omega) (by omega) (by omega)]
    show _ = some (fin ((cj l i (a - i).toNat (i + 1) ++ ci a l d (i + 1)).foldl (stp a b c l) st))
    rw [List.foldl_append]

/-! #### the program -/
theorem added_eq (a b c : Int) (l : List Jm) (hO : Ord l) (hl : l.length < 20) (i j : Int) (k : Nat) (hk : 15000 ≤ k) : impl_Board_added.f k a b c l i j = some (a, b, c, insL ⟨i, j⟩ l) := by
  have e := with_eq a b c l (l ++ [⟨i, j⟩]) (by rw [List.length_append, List.length_singleton]; omega) k (by omega)
  rw [insAll_app, insAll_ord l [] (by rw [List.nil_append]; exact hO), List.nil_append] at e
  unfold impl_Board_added.f cloneJumps.f
  rw [if_pos (show l.length < 8796093022208 by omega)]
  simp only [Option.bind_some]
  rw [if_pos (show l.length + [(⟨i, j⟩ : Jm)].length < 8796093022208 by rw [List.length_singleton]; omega), e]
  rfl

theorem any_idx (l : List Jm) (i : Int) : (l.any fun y => y.f1 == i) = true ∨ ((l.any fun y => y.f1 == i) = false ∧ ∀ j, (h : j < l.length) → (l[j].f1 == i) = false) := by
  cases h : l.any fun y => y.f1 == i with
  | true => exact .inl rfl
  | false =>
    refine .inr ⟨rfl, fun j hj => ?_⟩
    rw [List.any_eq_false] at h
    have := h l[j] (List.getElem_mem hj)
    simpa using this

theorem contains_eq (l : List Jm) (hl : l.length ≤ 1000) (i : Int) (k : Nat) (hk : l.length < k) : impl_Jump_192.f k l (landV i) = some (l.any fun y => y.f1 == i) := by
  unfold impl_Jump_192.f impl_Jump_213.f
  have hq : ∀ y : Jm, fvJ_.f (landV i) y.f0 y.f1 = some (y.f1 == i) := fun y => rfl
  have none_ : (∀ j, (h : j < l.length) → (l[j].f1 == i) = false) → impl_Jump_213.l0 k l (landV i) (l.length : Int) 0 = some (-1) := fun h => by
    have := idx_none (landV i) (fun y => y.f1 == i) hq l hl l.length 0 k (by omega) hk (fun j hj _ => h j hj)
    exact this
  rcases any_idx l i with h | ⟨h, h2⟩
  · rw [h]
    have hm : ∀ n, (∃ m, ∃ hm : m < l.length, m < n ∧ (l[m].f1 == i) = true) → ∃ m, ∃ hm : m < l.length, (l[m].f1 == i) = true ∧ ∀ j, (hj : j < m) → (l[j].f1 == i) = false := by
      intro n
      induction n with
      | zero => rintro ⟨m, hm, h, _⟩; omega
      | succ n ih =>
        rintro ⟨m, hm, hn, he⟩
        by_cases hx : ∃ m, ∃ hm : m < l.length, m < n ∧ (l[m].f1 == i) = true
        · exact ih hx
        · refine ⟨m, hm, he, fun j hj => ?_⟩
          cases e : (l[j].f1 == i) with
          | false => rfl
          | true => exact absurd ⟨j, by omega, by omega, e⟩ hx
    rw [List.any_eq_true] at h
    obtain ⟨y, hy, hyi⟩ := h
    obtain ⟨m0, hm0, rfl⟩ := List.mem_iff_getElem.mp hy
    obtain ⟨m, hm1, hm2, hm3⟩ := hm l.length ⟨m0, hm0, hm0, hyi⟩
    have e := idx_some (landV i) (fun y => y.f1 == i) hq l hl m hm1 hm2 m 0 k (by omega) (by omega) (fun j hj _ => hm3 j hj)
    rw [show ((0 : Nat) : Int) = 0 from rfl] at e
    rw [e]
    simp only [Option.bind_some]
    rw [decide_eq_true (by omega)]
  · rw [h, none_ h2]
    rfl

def bd (a b c : Int) (l : List Jm) (p : Jm) : Bo := ⟨a, b, c, insL p l⟩

theorem lad_l1 {a b c : Int} {l : List Jm} (h : good a b c l = true) (hl : l.length < 20) (i : Int) (h1 : 1 ≤ i) (hi : oki l i = true) : ∀ (d k : Nat) (j : Int) (x4 : List Bo) (x5 : List Jm), j + d = a + 1 → i < j → 15100 + d < k → x4.length + d ≤ 100000 → x5.length + d ≤ 100000 →
    ∃ k', k ≤ k' + d + 1 ∧ impl_Board_ladders.l1 k x4 x5 j a b c l i = impl_Board_ladders.l0 k' (x4 ++ (cj l i d j).map (bd a b c l)) (x5 ++ cj l i d j) a b c l (i + 1)
  | 0, k, j, x4, x5, g1, g2, g3, g4, g5 => by
    obtain ⟨k, rfl⟩ : ∃ m, k = m + 1 := ⟨k - 1, by omega⟩
    have B := Board.of_good h
    have := B.a2
    refine ⟨k, by omega, ?_⟩
    simp only [impl_Board_ladders.l1]
    rw [if_neg (by omega), w64 (i + 1) (by omega) (by omega)]
    simp [cj]
  | d + 1, k, j, x4, x5, g1, g2, g3, g4, g5 => by
    obtain ⟨k, rfl⟩ : ∃ m, k = m + 1 := ⟨k - 1, by omega⟩
    have B := Board.of_good h
    have := B.a2
    simp only [impl_Board_ladders.l1]
    rw [if_pos (by omega), isSquare_eq B j k (by omega), w64 (j + 1) (by omega) (by omega)]
    simp only [Option.bind_some]
    have hs : sqr a l j = okj l j := by
      unfold sqr okj
      rw [decide_eq_true (show 0 ≤ j ∧ j ≤ a by omega), Bool.true_and]
    rw [hs]
    unfold cj
    by_cases ho : okj l j = true
    · obtain ⟨k', hk', e⟩ := lad_l1 h hl i h1 hi d k (j + 1) (x4 ++ [bd a b c l ⟨i, j⟩]) (x5 ++ [⟨i, j⟩]) (by omega) (by omega) (by omega) (by rw [List.length_append, List.length_singleton]; omega) (by rw [List.length_append, List.length_singleton]; omega)
      refine ⟨k', by omega, ?_⟩
      rw [if_pos ho, if_pos ⟨hi, ho⟩, added_eq a b c l (good_ord h) hl i j k (by omega)]
      simp only [Option.bind_some, List.length_singleton]
      rw [if_pos (by omega), if_pos (by omega)]
      rw [List.append_assoc, List.append_assoc] at e
      exact e
    · obtain ⟨k', hk', e⟩ := lad_l1 h hl i h1 hi d k (j + 1) x4 x5 (by omega) (by omega) (by omega) (by omega) (by omega)
      refine ⟨k', by omega, ?_⟩
      rw [if_neg ho, if_neg (fun e => ho e.2), e]

theorem cj_length (l : List Jm) (i : Int) : ∀ d j, (cj l i d j).length ≤ d
  | 0, _ => Nat.le_refl _
  | d + 1, j => by
    have := cj_length l i d (j + 1)
    unfold cj
    split
    · rw [List.length_cons]; omega
    · omega

theorem lad_l0 {a b c : Int} {l : List Jm} (h : good a b c l = true) (hl : l.length < 20) : ∀ (d k : Nat) (i : Int) (x4 : List Bo) (x5 : List Jm), i + d = a → 1 ≤ i → 20000 + 200 * d < k → x4.length + 200 * d ≤ 90000 → x5.length + 200 * d ≤ 90000 →
    impl_Board_ladders.l0 k x4 x5 a b c l i = some (x4 ++ (ci a l d i).map (bd a b c l), x5 ++ ci a l d i)
  | 0, k, i, x4, x5, g1, g2, g3, g4, g5 => by
    obtain ⟨k, rfl⟩ : ∃ m, k = m + 1 := ⟨k - 1, by omega⟩
    simp only [impl_Board_ladders.l0]
    rw [if_neg (by omega)]
    simp [ci]
  | d + 1, k, i, x4, x5, g1, g2, g3, g4, g5 => by
    obtain ⟨k, rfl⟩ : ∃ m, k = m + 1 + 1 := ⟨k - 2, by omega⟩
    have B := Board.of_good h
    have := B.a2
    have hc := cj_length l i (a - i).toNat (i + 1)
    have rest : ∀ (k' : Nat), 20000 + 200 * d < k' → impl_Board_ladders.l0 k' (x4 ++ (cj l i (a - i).toNat (i + 1)).map (bd a b c l)) (x5 ++ cj l i (a - i).toNat (i + 1)) a b c l (i + 1) = some (x4 ++ (ci a l (d + 1) i).map (bd a b c l), x5 ++ ci a l (d + 1) i) := fun k' hk' => by
      rw [lad_l0 h hl d k' (i + 1) _ _ (by omega) (by omega) hk' (by rw [List.length_append, List.length_map]; omega) (by rw [List.length_append]; omega)]
      show _ = some (x4 ++ (cj l i (a - i).toNat (i + 1) ++ ci a l d (i + 1)).map (bd a b c l), x5 ++ (cj l i (a - i).toNat (i + 1) ++ ci a l d (i + 1)))
      rw [List.map_append, List.append_assoc, List.append_assoc]
    have skip_ : ¬ oki l i = true → impl_Board_ladders.j1 (k + 1) x4 x5 true a b c l i = some (x4 ++ (ci a l (d + 1) i).map (bd a b c l), x5 ++ ci a l (d + 1) i) := fun hn => by
      simp only [impl_Board_ladders.j1]
      rw [if_pos trivial, w64 (i + 1) (by omega) (by omega)]
      have := rest k (by omega)
      rw [cj_none l i hn] at this
      simpa using this
    simp only [impl_Board_ladders.l0]
    rw [if_pos (by omega), isSquare_eq B i (k + 1) (by omega)]
    simp only [Option.bind_some]
    by_cases hs : sqr a l i = true
    · rw [if_pos hs, contains_eq l (by omega) i (k + 1) (by omega)]
      simp only [Option.bind_some]
      have hb : (beg l i).2 = false := by
        unfold sqr at hs
        simp only [Bool.and_eq_true, Bool.not_eq_true'] at hs
        exact hs.2
      cases hy : l.any fun y => y.f1 == i with
      | true => exact skip_ (by unfold oki; rw [hy]; simp)
      | false =>
        have hi : oki l i = true := by unfold oki; rw [hy, hb]; rfl
        obtain ⟨k', hk', e⟩ := lad_l1 h hl i g2 hi (a - i).toNat k (i + 1) x4 x5 (by omega) (by omega) (by omega) (by omega) (by omega)
        simp only [impl_Board_ladders.j1]
        rw [if_neg (by decide), w64 (i + 1) (by omega) (by omega), e]
        exact rest k' (by omega)
    · rw [if_neg hs]
      refine skip_ fun e => hs ?_
      unfold oki at e
      unfold sqr
      simp only [Bool.and_eq_true] at e
      rw [decide_eq_true (show 0 ≤ i ∧ i ≤ a by omega), Bool.true_and]
      exact e.1

theorem rdB_at {l : List Bo} {i : Nat} (h : i < l.length) : rd_T32 l (i : Int) = l[i] := by
  unfold rd_T32
  simp [List.getD, List.getElem?_eq_getElem h]

theorem ci_ok {a b c : Int} {l : List Jm} (h : good a b c l = true) (hl : l.length < 20) : ∀ (d : Nat) (i : Int), i + d = a → 1 ≤ i → ∀ p ∈ ci a l d i, good a b c (insL p l) = true
  | 0, i, _, _, p, hp => by simp [ci] at hp
  | d + 1, i, g1, g2, p, hp => by
    have inner : ∀ (d : Nat) (j : Int), j + d = a + 1 → i < j → ∀ p ∈ cj l i d j, good a b c (insL p l) = true := by
      intro d
      induction d with
      | zero => intro j _ _ p hp; simp [cj] at hp
      | succ d ih =>
        intro j e1 e2 p hp
        unfold cj at hp
        split at hp
        · rename_i ho
          rcases List.mem_cons.mp hp with rfl | hp
          · exact (ok_iff h hl i j g2 e2 (by omega)).mpr ho
          · exact ih (j + 1) (by omega) (by omega) p hp
        · exact ih (j + 1) (by omega) (by omega) p hp
    unfold ci at hp
    rcases List.mem_append.mp hp with hp | hp
    · exact inner (a - i).toNat (i + 1) (by omega) (by omega) p hp
    · exact ci_ok h hl d (i + 1) (by omega) (by omega) p hp

theorem best_l0 {a b c : Int} {l : List Jm} (cs : List Jm) (hcs : ∀ p ∈ cs, good a b c (insL p l) = true) (hcl : cs.length ≤ 100000) : ∀ (d i k : Nat) (st : Int × Int × Int), i + d = cs.length → 600100 + d < k →
    impl_BestLadder.l0 k st.1 cs (cs.map (bd a b c l)) (cs.length : Int) (i : Int) st.2.1 st.2.2 = some (((cs.drop i).foldl (stp a b c l) st).2.1, ((cs.drop i).foldl (stp a b c l) st).2.2, mx 0 ((cs.drop i).foldl (stp a b c l) st).1, decide (((cs.drop i).foldl (stp a b c l) st).1 ≥ 0))
  | 0, i, k, st, g1, g2 => by
    obtain ⟨k, rfl⟩ : ∃ m, k = m + 1 := ⟨k - 1, by omega⟩
    simp only [impl_BestLadder.l0]
    rw [if_neg (by omega), List.drop_of_length_le (by omega)]
    rfl
  | d + 1, i, k, st, g1, g2 => by
    obtain ⟨k, rfl⟩ : ∃ m, k = m + 1 := ⟨k - 1, by omega⟩
    have hi : i < cs.length := by omega
    have hib : i < (cs.map (bd a b c l)).length := by rw [List.length_map]; exact hi
    have ih := best_l0 cs hcs hcl d (i + 1) k (stp a b c l st cs[i]) (by omega) (by omega)
    obtain ⟨e1, _, e3⟩ := tab_eq (Board.of_good (hcs cs[i] (List.getElem_mem hi))) k (by omega)
    rw [List.drop_eq_getElem_cons hi, List.foldl_cons, ← ih]
    simp only [impl_BestLadder.l0]
    rw [if_pos (by omega), if_pos (by omega), if_pos (by rw [List.length_map]; omega), rdB_at hib, List.getElem_map]
    show (impl_Board_far.f k a b c (insL cs[i] l)).bind _ = _
    rw [e1]
    simp only [Option.bind_some]
    rw [if_pos e3, if_pos (show (i : Int) < (cs.length : Int) by omega), rdJ_at hi, w64_succ (by omega)]
    unfold stp
    split
    · split
      · rfl
      · split <;> rfl
    · rfl

theorem stp_inv (a b c : Int) (l : List Jm) : ∀ (cs : List Jm) (st : Int × Int × Int), (st.1 < 0 → st.2 = (0, 0)) → ((cs.foldl (stp a b c l) st).1 < 0 → (cs.foldl (stp a b c l) st).2 = (0, 0))
  | [], st, h => h
  | p :: cs, st, h => by
    refine stp_inv a b c l cs _ ?_
    unfold stp
    split
    · split
      · intro e; exact absurd e (by show ¬ rd _ 0 < 0; omega)
      · split
        · intro e; exact absurd e (by show ¬ rd _ 0 < 0; omega)
        · exact h
    · exact h

theorem fin_eq (st : Int × Int × Int) (h : st.1 < 0 → st.2 = (0, 0)) : (st.2.1, st.2.2, mx 0 st.1, decide (st.1 ≥ 0)) = fin st := by
  unfold fin mx
  by_cases e : st.1 < 0
  · rw [if_pos e, h e, if_neg (by omega), decide_eq_false (by omega)]
  · rw [if_neg e, decide_eq_true (by omega)]
    split
    · rfl
    · rw [show st.1 = 0 by omega]

theorem ci_length {a : Int} {l : List Jm} : ∀ (d : Nat) (i : Int), i + d = a → (ci a l d i).length ≤ d * d
  | 0, _, _ => by simp [ci]
  | d + 1, i, h => by
    have h1 := ci_length (a := a) (l := l) d (i + 1) (by omega)
    have h2 := cj_length l i (a - i).toNat (i + 1)
    unfold ci
    rw [List.length_append]
    have e : (d + 1) * (d + 1) = d * d + d + (d + 1) := by rw [Nat.add_mul, Nat.mul_add, Nat.one_mul, Nat.mul_one]
    omega

theorem BestLadder_same (a b c : Int) (l : List Jm) : ∃ (K : Nat) (r : Int × Int × Int × Bool), ∀ k, K ≤ k → spec_BestLadder.f k a b c l = some r ∧ impl_BestLadder.f k a b c l = some r := by
  by_cases h : good a b c l = true
  · have B := Board.of_good h
    have hl20 := B.len
    have := B.a1; have := B.a2
    by_cases h20 : l.length = 20
    · refine ⟨1000, (0, 0, 0, false), fun k hk => ?_⟩
      obtain ⟨k, rfl⟩ : ∃ m, k = m + 1 := ⟨k - 1, by omega⟩
      unfold spec_BestLadder.f impl_BestLadder.f impl_Board_ladders.f
      rw [sqGood_eq a b c l _ (by omega), isBoard_eq a b c l _ (by omega), h]
      simp only [Option.bind_some, if_true, spec_BestLadder.j0, impl_BestLadder.l0]
      rw [if_pos (show ((l.length : Int) == 20) = true by rw [beq_iff_eq]; omega), if_pos (show (l.length : Int) = 20 by omega)]
      exact ⟨rfl, rfl⟩
    · have hl : l.length < 20 := by omega
      have hok := ci_ok h hl (a - 1).toNat 1 (show (1 : Int) + ((a - 1).toNat : Int) = a by omega) (by omega)
      have hcl := ci_length (a := a) (l := l) (a - 1).toNat 1 (show (1 : Int) + ((a - 1).toNat : Int) = a by omega)
      have hsq : (a - 1).toNat * (a - 1).toNat ≤ 100 * 100 := Nat.mul_le_mul (by omega) (by omega)
      refine ⟨1000000, fin ((ci a l (a - 1).toNat 1).foldl (stp a b c l) (-1, 0, 0)), fun k hk => ⟨?_, ?_⟩⟩
      · obtain ⟨k, rfl⟩ : ∃ m, k = m + 1 := ⟨k - 1, by omega⟩
        unfold spec_BestLadder.f
        rw [sqGood_eq a b c l _ (by omega), h]
        simp only [Option.bind_some, if_true, spec_BestLadder.j0]
        rw [if_neg (show ¬ ((l.length : Int) == 20) = true by rw [beq_iff_eq]; omega)]
        exact spec_l0 h hl (a - 1).toNat k 1 (-1, 0, 0) (by omega) (by omega) (by omega)
      · unfold impl_BestLadder.f impl_Board_ladders.f
        rw [isBoard_eq a b c l _ (by omega), h]
        simp only [Option.bind_some, if_true]
        rw [if_neg (show ¬ (l.length : Int) = 20 by omega), lad_l0 h hl (a - 1).toNat k 1 [] [] (by omega) (by omega) (by omega) (by simp; omega) (by simp; omega)]
        simp only [Option.bind_some, List.nil_append, List.length_map]
        have e := best_l0 (ci a l (a - 1).toNat 1) hok (by omega) (ci a l (a - 1).toNat 1).length 0 k (-1, 0, 0) (by omega) (by omega)
        rw [show ((0 : Nat) : Int) = 0 from rfl, List.drop_zero] at e
        rw [e, fin_eq _ (stp_inv a b c l _ (-1, 0, 0) (fun _ => rfl))]
  · refine ⟨1000, (0, 0, 0, false), fun k hk => ?_⟩
    obtain ⟨k, rfl⟩ : ∃ m, k = m + 1 := ⟨k - 1, by omega⟩
    unfold spec_BestLadder.f impl_BestLadder.f
    rw [sqGood_eq a b c l _ (by omega), isBoard_eq a b c l _ (by omega)]
    simp only [Option.bind_some, spec_BestLadder.j0]
    rw [if_neg h, if_neg h]
    exact ⟨rfl, rfl⟩

attribute [local congr] bind_weak in
theorem FnExactBestLadder : laws_FnExactBestLadder.Pure := by
  intro a b c l  wa wb wc hm hw
  by_cases hlen : l.length ≤ 1048576
  case neg =>
    refine ⟨0, ?_⟩
    unfold laws_FnExactBestLadder.f
    rw [szBoard_eq a b c l _ (by omega) (by omega) hm]
    simp only [Option.bind_some]
    rw [if_pos (by rw [if_neg (by omega)]; omega)]
  obtain ⟨K, r, hr⟩ := BestLadder_same a b c (l.map conv)
  obtain ⟨n, hn⟩ : ∃ n, n = 2097300 + K := ⟨_, rfl⟩
  have h0 := fun k hk => (hr k hk).1
  have h1 := fun k hk => (hr k hk).2
  refine ⟨n + 4, ?_⟩
  have hT := fun k hk => toBoard_eq a b c l hlen k hk
  have hE := fun k hk => eqBoard_same a b c (l.map conv) (by rw [List.length_map]; omega) k hk
  have hlm : (l.map conv).length = l.length := List.length_map ..
  have hz := szBoard_eq a b c l 1048576 (by omega) (by omega) hm
  have hz2 : ((if (l.length : Int) ≤ 1048576 then 1048576 - (l.length : Int) else -1) < 0) = False := eq_false (by rw [if_pos (by omega)]; omega)
  generalize l.map conv = L at *
  unfold laws_FnExactBestLadder.f
  simp (maxSteps := 2000000) (disch := omega) only [↓reduceIte, hz, hz2, Option.bind_some, bne_self_eq_false, Bool.false_eq_true, decide_true, laws_FnExactBestLadder.j0, hT, h0, h1, hE, laws_eqJump.f]


end Go.Proofs.Ytkobjjadojpjfaa.Pure
