/- Proved here: a breadth-first search over squares keeps what the table of fewest throws asks; the conditions are a board's own bounds. -/
import Derived.Test.YtkobjjadojpjfaaPL8
namespace Go.Proofs.Ytkobjjadojpjfaa.Pr
open Go.RowKit Go.Proofs.YtkobjjadojpjfaaW.PrintWords Go.Proofs.YtkobjjadojpjfaaW.PrintLast Go.Proofs.YtkobjjadojpjfaaW.PrintMore
set_option linter.unusedVariables false
set_option linter.unusedSimpArgs false

def bfsVisit (v : Int) : List Int → List Int → List Int → List Int × List Int
  | [], T, q => (T, q)
  | p :: ps, T, q => if rd T p < 0 then bfsVisit v ps (T.set p.toNat v) (q ++ [p]) else bfsVisit v ps T q

theorem rd_append_left {q e : List Int} {i : Nat} (h : i < q.length) : rd (q ++ e) (i : Int) = rd q (i : Int) := by
  rw [rd_at h, rd_at (by rw [List.length_append]; omega), List.getElem_append_left h]

theorem rd_append_last {q : List Int} {p : Int} : rd (q ++ [p]) (q.length : Int) = p := by
  rw [rd_at (by rw [List.length_append]; simp)]
  simp

theorem rd_mem {q : List Int} {i : Nat} (h : i < q.length) : rd q (i : Int) ∈ q := by
  rw [rd_at h]; exact List.getElem_mem h

/-- the search, its heads up to h being done -/
structure Bq (a b c : Int) (l : List S27) (T q : List Int) (h : Nat) : Prop where
  len : T.length = (a + 1).toNat
  lo : ∀ i : Int, 0 ≤ i → i ≤ a → -1 ≤ rd T i
  last : rd T a = 0
  cnt : q.length + negs T = (a + 1).toNat
  mem : ∀ x ∈ q, 0 ≤ x ∧ x ≤ a ∧ 0 ≤ rd T x
  has : ∀ x : Int, 0 ≤ x → x ≤ a → 0 ≤ rd T x → x ∈ q
  small : ∀ x ∈ q, rd T x ≤ q.length
  mono : ∀ i j : Nat, i ≤ j → j < q.length → rd T (rd q (i : Int)) ≤ rd T (rd q (j : Int))
  top : h < q.length → ∀ x ∈ q, rd T x ≤ rd T (rd q (h : Int)) + 1
  down : ∀ i : Int, 0 ≤ i → i < a → 0 ≤ rd T i → sqr a l i = true ∧ ∃ f : Int, 1 ≤ f ∧ f ≤ b ∧ 0 ≤ rd T (thr a c l i f) ∧ rd T (thr a c l i f) + 1 = rd T i
  done : ∀ i : Nat, i < h → i < q.length → ∀ j f : Int, 0 ≤ j → j < a → sqr a l j = true → 1 ≤ f → f ≤ b → thr a c l j f = rd q (i : Int) → 0 ≤ rd T j ∧ rd T j ≤ rd T (rd q (i : Int)) + 1

theorem Bq.add {a b c : Int} {l : List S27} (B : Board a b c l) {T q : List Int} {h : Nat} (H : Bq a b c l T q h) (hh : h < q.length) (p f : Int) (p0 : 0 ≤ p) (p1 : p < a) (ps : sqr a l p = true) (f1 : 1 ≤ f) (f2 : f ≤ b) (pt : thr a c l p f = rd q (h : Int)) (pn : rd T p < 0) :
    Bq a b c l (T.set p.toNat (rd T (rd q (h : Int)) + 1)) (q ++ [p]) h := by
  have := B.a1
  have hi : p.toNat < T.length := by rw [H.len]; omega
  have hset : ∀ j : Int, 0 ≤ j → rd (T.set p.toNat (rd T (rd q (h : Int)) + 1)) j = if j = p then rd T (rd q (h : Int)) + 1 else rd T j := fun j hj => by
    rw [rd_set hj hi, show ((p.toNat : Nat) : Int) = p by omega]
  have hne : ∀ x ∈ q, x ≠ p := fun x hx e => by have := (H.mem x hx).2.2; rw [e] at this; omega
  have hold : ∀ x ∈ q, rd (T.set p.toNat (rd T (rd q (h : Int)) + 1)) x = rd T x := fun x hx => by rw [hset x (H.mem x hx).1, if_neg (hne x hx)]
  have hhm := rd_mem hh
  have hv0 := (H.mem _ hhm).2.2
  have hnew : rd (T.set p.toNat (rd T (rd q (h : Int)) + 1)) p = rd T (rd q (h : Int)) + 1 := by rw [hset p p0, if_pos rfl]
  have hap := p1
  refine ⟨by rw [List.length_set]; exact H.len, fun i i0 i1 => ?_, ?_, ?_, fun x hx => ?_, fun x x0 x1 xn => ?_, fun x hx => ?_, fun i j ij jl => ?_, fun _ x hx => ?_, fun i i0 i1 inn => ?_, fun i ih il j g j0 j1 js g1 g2 jt => ?_⟩
  · rw [hset i i0]; split
    · omega
    · exact H.lo i i0 i1
  · rw [hset a (by omega), if_neg (by omega)]; exact H.last
  · have := negs_set (v := rd T (rd q (h : Int)) + 1) hi (by rw [show ((p.toNat : Nat) : Int) = p by omega]; exact pn) (by omega)
    have := H.cnt
    rw [List.length_append, List.length_singleton]
    omega
  · rcases List.mem_append.mp hx with hx | hx
    · rw [hold x hx]; exact H.mem x hx
    · rw [List.mem_singleton.mp hx, hnew]; omega
  · rw [hset x x0] at xn
    by_cases e : x = p
    · exact List.mem_append.mpr (.inr (List.mem_singleton.mpr e))
    · rw [if_neg e] at xn
      exact List.mem_append.mpr (.inl (H.has x x0 x1 xn))
  · rw [List.length_append, List.length_singleton]
    rcases List.mem_append.mp hx with hx | hx
    · rw [hold x hx]; have := H.small x hx; omega
    · rw [List.mem_singleton.mp hx, hnew]; have := H.small _ hhm; omega
  · rw [List.length_append, List.length_singleton] at jl
    by_cases ej : j = q.length
    · subst ej
      rw [rd_append_last, hnew]
      by_cases ei : i = q.length
      · subst ei; rw [rd_append_last, hnew]; omega
      · have hi' : i < q.length := by omega
        rw [rd_append_left hi', hold _ (rd_mem hi')]
        exact H.top hh _ (rd_mem hi')
    · have hj' : j < q.length := by omega
      have hi' : i < q.length := by omega
      rw [rd_append_left hi', rd_append_left hj', hold _ (rd_mem hi'), hold _ (rd_mem hj')]
      exact H.mono i j ij hj'
  · rw [rd_append_left hh, hold _ hhm]
    rcases List.mem_append.mp hx with hx | hx
    · rw [hold x hx]; exact H.top hh x hx
    · rw [List.mem_singleton.mp hx, hnew]; omega
  · by_cases e : i = p
    · subst e
      refine ⟨ps, f, f1, f2, ?_⟩
      rw [pt, hold _ hhm, hnew]
      omega
    · rw [hset i i0, if_neg e] at inn ⊢
      obtain ⟨is, g, g1, g2, g3, g4⟩ := H.down i i0 i1 inn
      refine ⟨is, g, g1, g2, ?_⟩
      have hq := sqr_le (B.thr_sqr i g is g1 g2)
      have hn : thr a c l i g ≠ p := fun e2 => by rw [e2] at g3; omega
      rw [hset _ hq.1, if_neg hn]
      exact ⟨g3, g4⟩
  · have il' : i < q.length := by omega
    rw [rd_append_left il'] at jt ⊢
    have := H.done i ih il' j g j0 j1 js g1 g2 jt
    have hn : j ≠ p := fun e => by rw [e] at this; omega
    rw [hset j j0, if_neg hn, hold _ (rd_mem il')]
    exact this

/-- a square from which a face leads to another one -/
def Pred (a b c : Int) (l : List S27) (t p : Int) : Prop := 0 ≤ p ∧ p < a ∧ sqr a l p = true ∧ ∃ f : Int, 1 ≤ f ∧ f ≤ b ∧ thr a c l p f = t

theorem Bq.visit {a b c : Int} {l : List S27} (B : Board a b c l) {h : Nat} : ∀ (ps : List Int) {T q : List Int}, Bq a b c l T q h → h < q.length → (∀ p ∈ ps, Pred a b c l (rd q (h : Int)) p) →
    Bq a b c l (bfsVisit (rd T (rd q (h : Int)) + 1) ps T q).1 (bfsVisit (rd T (rd q (h : Int)) + 1) ps T q).2 h ∧ (∀ x : Int, 0 ≤ x → x ≤ a → 0 ≤ rd T x → rd (bfsVisit (rd T (rd q (h : Int)) + 1) ps T q).1 x = rd T x) ∧
    (∀ p ∈ ps, 0 ≤ rd (bfsVisit (rd T (rd q (h : Int)) + 1) ps T q).1 p) ∧ ∃ e, (bfsVisit (rd T (rd q (h : Int)) + 1) ps T q).2 = q ++ e
  | [], T, q, H, hh, hp => ⟨H, fun _ _ _ _ => rfl, fun p hp => by simp at hp, [], by simp [bfsVisit]⟩
  | p :: ps, T, q, H, hh, hp => by
    obtain ⟨p0, p1, p2, f, f1, f2, pt⟩ := hp p (List.mem_cons_self ..)
    have hps : ∀ x ∈ ps, Pred a b c l (rd q (h : Int)) x := fun x hx => hp x (List.mem_cons_of_mem _ hx)
    have hhm := rd_mem hh
    unfold bfsVisit
    by_cases hn : rd T p < 0
    · rw [if_pos hn]
      have H2 := H.add B hh p f p0 p1 p2 f1 f2 pt hn
      have e1 : rd (q ++ [p]) (h : Int) = rd q (h : Int) := rd_append_left hh
      have hset : ∀ j : Int, 0 ≤ j → rd (T.set p.toNat (rd T (rd q (h : Int)) + 1)) j = if j = p then rd T (rd q (h : Int)) + 1 else rd T j := fun j hj => by
        rw [rd_set hj (by rw [H.len]; omega), show ((p.toNat : Nat) : Int) = p by omega]
      have e2 : rd (T.set p.toNat (rd T (rd q (h : Int)) + 1)) (rd q (h : Int)) = rd T (rd q (h : Int)) := by
        rw [hset _ (H.mem _ hhm).1, if_neg (fun e => by have := (H.mem _ hhm).2.2; rw [e] at this; omega)]
      obtain ⟨r1, r2, r3, e, r4⟩ := Bq.visit B ps H2 (by rw [List.length_append]; omega) (by rw [e1]; exact hps)
      rw [e1, e2] at r1 r2 r3 r4
      refine ⟨r1, fun x x0 x1 xn => ?_, fun x hx => ?_, p :: e, by rw [r4]; simp⟩
      · have : rd (T.set p.toNat (rd T (rd q (h : Int)) + 1)) x = rd T x := by rw [hset x x0, if_neg (fun e => by rw [e] at xn; omega)]
        rw [r2 x x0 x1 (by rw [this]; exact xn), this]
      · rcases List.mem_cons.mp hx with rfl | hx
        · have hv0 := (H.mem _ hhm).2.2
          have : rd (T.set x.toNat (rd T (rd q (h : Int)) + 1)) x = rd T (rd q (h : Int)) + 1 := by rw [hset x p0, if_pos rfl]
          rw [r2 x p0 (by omega) (by rw [this]; omega), this]
          omega
        · exact r3 x hx
    · rw [if_neg hn]
      obtain ⟨r1, r2, r3, e, r4⟩ := Bq.visit B ps H hh hps
      refine ⟨r1, r2, fun x hx => ?_, e, r4⟩
      rcases List.mem_cons.mp hx with rfl | hx
      · rw [r2 x p0 (by omega) (by omega)]; omega
      · exact r3 x hx

theorem Bq.next {a b c : Int} {l : List S27} (B : Board a b c l) {h : Nat} {T q : List Int} (H : Bq a b c l T q h) (hh : h < q.length) (ps : List Int) (hp : ∀ p, p ∈ ps ↔ Pred a b c l (rd q (h : Int)) p) :
    Bq a b c l (bfsVisit (rd T (rd q (h : Int)) + 1) ps T q).1 (bfsVisit (rd T (rd q (h : Int)) + 1) ps T q).2 (h + 1) := by
  have := B.a1
  have hhm := rd_mem hh
  obtain ⟨r1, r2, r3, e, r4⟩ := Bq.visit B ps H hh (fun p hx => (hp p).mp hx)
  have eh : rd (bfsVisit (rd T (rd q (h : Int)) + 1) ps T q).2 (h : Int) = rd q (h : Int) := by rw [r4]; exact rd_append_left hh
  have hl : h < (bfsVisit (rd T (rd q (h : Int)) + 1) ps T q).2.length := by rw [r4, List.length_append]; omega
  refine { r1 with top := fun h1 x hx => ?_, done := fun i ih il j f j0 j1 js f1 f2 jt => ?_ }
  · have a1 := r1.top hl x hx
    have a2 := r1.mono h (h + 1) (by omega) h1
    omega
  · by_cases e1 : i = h
    · subst e1
      rw [eh] at jt ⊢
      have hj := r3 j ((hp j).mpr ⟨j0, j1, js, f, f1, f2, jt⟩)
      refine ⟨hj, ?_⟩
      have a1 := r1.top hl j (r1.has j j0 (by omega) hj)
      rw [eh] at a1
      exact a1
    · exact r1.done i (by omega) il j f j0 j1 js f1 f2 jt

theorem Bq.far {a b c : Int} {l : List S27} (B : Board a b c l) {h : Nat} {T q : List Int} (H : Bq a b c l T q h) (hh : q.length ≤ h) : Far a b c l T := by
  have := B.a1
  refine ⟨H.len, H.lo, H.last, fun i i0 i1 => ?_, H.down, fun i f i0 i1 is f1 f2 hn => ?_⟩
  · have := B.a2; have := H.cnt
    by_cases h0 : 0 ≤ rd T i
    · have := H.small i (H.has i i0 i1 h0); omega
    · omega
  have hq := sqr_le (B.thr_sqr i f is f1 f2)
  have hm := H.has _ hq.1 hq.2 hn
  obtain ⟨v, hv, e⟩ := List.getElem_of_mem hm
  have e2 : thr a c l i f = rd q (v : Int) := by rw [rd_at hv, e]
  have := H.done v (by omega) hv i f i0 i1 is f1 f2 e2
  rw [e2]
  exact this

theorem Bq.start {a b c : Int} {l : List S27} (B : Board a b c l) : Bq a b c l ((List.replicate (a + 1).toNat (-1 : Int)).set a.toNat 0) [a] 0 := by
  have := B.a1
  have hrep : (List.replicate (a + 1).toNat (-1 : Int)).length = (a + 1).toNat := List.length_replicate
  have hrd : ∀ j : Int, 0 ≤ j → j ≤ a → rd (List.replicate (a + 1).toNat (-1 : Int)) j = -1 := fun j j0 j1 => by
    rw [show j = (j.toNat : Int) by omega, rd_at (by rw [hrep]; omega)]
    simp
  have hall : ∀ j : Int, 0 ≤ j → j ≤ a → rd ((List.replicate (a + 1).toNat (-1 : Int)).set a.toNat 0) j = if j = a then 0 else -1 := fun j j0 j1 => by
    rw [rd_set j0 (by rw [hrep]; omega), hrd j j0 j1, show ((a.toNat : Nat) : Int) = a by omega]
  have h0 : rd [a] ((0 : Nat) : Int) = a := rfl
  refine ⟨by rw [List.length_set, hrep], fun j j0 j1 => by rw [hall j j0 j1]; split <;> omega, by rw [hall a (by omega) (by omega), if_pos rfl], ?_, fun x hx => ?_, fun x x0 x1 xn => ?_, fun x hx => ?_, fun i j ij jl => ?_, fun _ x hx => ?_, fun j j0 j1 jn => by rw [hall j j0 (by omega), if_neg (by omega)] at jn; omega, fun i ih => by omega⟩
  · have h1 := negs_set (T := List.replicate (a + 1).toNat (-1 : Int)) (i := a.toNat) (v := 0) (by rw [hrep]; omega) (by rw [hrd _ (by omega) (by omega)]; omega) (by omega)
    have h2 : negs (List.replicate (a + 1).toNat (-1 : Int)) = (a + 1).toNat := by
      unfold negs
      rw [List.countP_replicate, if_pos (by decide)]
    rw [List.length_singleton]
    omega
  · rw [List.mem_singleton.mp hx, hall a (by omega) (by omega), if_pos rfl]; omega
  · rw [hall x x0 x1] at xn
    by_cases e : x = a
    · rw [e]; exact List.mem_singleton.mpr rfl
    · rw [if_neg e] at xn; omega
  · rw [List.mem_singleton.mp hx, hall a (by omega) (by omega), if_pos rfl]; simp
  · rw [List.length_singleton] at jl
    rw [show i = 0 by omega, show j = 0 by omega]; omega
  · rw [List.mem_singleton.mp hx, h0]; omega

end Go.Proofs.Ytkobjjadojpjfaa.Pr
