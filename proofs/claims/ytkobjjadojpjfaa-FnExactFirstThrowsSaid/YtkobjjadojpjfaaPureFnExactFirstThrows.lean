/- Proved here: the law FnExactFirstThrows answers true at all that comes in; no other condition. -/
import Derived.Test.YtkobjjadojpjfaaSFnExactFirstThrows
import Derived.Test.YtkobjjadojpjfaaPL10
import Derived.Test.YtkobjjadojpjfaaPL1M
namespace Go.Proofs.Ytkobjjadojpjfaa.Pure
open Go.RowKit Go.Proofs.Ytkobjjadojpjfaa.Pr Go.Proofs.YtkobjjadojpjfaaW.PrintWords Go.Proofs.YtkobjjadojpjfaaW.PrintLast
set_option linter.unusedSimpArgs false

/-- the first face of those from j on that leads nearer -/
def nearer (a c : Int) (l : List S27) (U : List Int) (s : Int) : Nat → Nat → Nat
  | 0, j => j
  | d + 1, j => if rd U (thr a c l s (j : Int)) = rd U s - 1 then j else nearer a c l U s d (j + 1)

theorem nearer_is {a b c : Int} {l : List S27} (B : Board a b c l) {U : List Int} (hU : Far a b c l U) {s : Int} (hs : sqr a l s = true) (hp : 0 < rd U s) (hh : rd U s ≤ 1000) : ∀ (d j : Nat) (f : Int), (j + d : Nat) = b → 1 ≤ j → (j : Int) ≤ f → f ≤ b → rd U (thr a c l s f) + 1 = rd U s →
    ∃ g : Nat, 1 ≤ g ∧ (g : Int) ≤ b ∧ rd U (thr a c l s (g : Int)) + 1 = rd U s ∧ (∀ k out, d + 40 < k → out.length ≤ 2000 → ∃ k', k ≤ k' + d + 1 ∧ spec_FirstThrows.l1 k s U out (rd U s) (j : Int) a b c l = spec_FirstThrows.l0 k' (thr a c l s (g : Int)) U (out ++ [(g : Int)]) (rd U s - 1) a b c l) ∧
      (∀ k out, d + 40 < k → out.length ≤ 2000 → ∃ k', k ≤ k' + d + 1 ∧ impl_FirstThrows.l1 k s U out (j : Int) a b c l = impl_FirstThrows.l0 k' (thr a c l s (g : Int)) U (out ++ [(g : Int)]) a b c l) := by
  intro d
  have h1 := B.a1; have h2 := B.a2; have h3 := B.b2
  obtain ⟨s0, s1⟩ := sqr_le hs
  have hl := hU.len
  induction d with
  | zero =>
    intro j f e j1 jf fb hf
    have hff : f = (j : Int) := by omega
    rw [hff] at hf
    have hq := sqr_le (B.thr_sqr s (j : Int) hs (by omega) (by omega))
    refine ⟨j, j1, by omega, hf, fun k out hk ho => ?_, fun k out hk ho => ?_⟩
    · obtain ⟨k, rfl⟩ : ∃ m, k = m + 1 := ⟨k - 1, by omega⟩
      refine ⟨k, by omega, ?_⟩
      simp only [spec_FirstThrows.l1]
      rw [if_pos (by omega), sqThrow_eq B s (j : Int) s0 s1 (by omega) (by omega) k (by omega), w64 (rd U s - 1) (by omega) (by omega)]
      simp only [Option.bind_some]
      rw [if_pos hq.1, if_pos (by omega), if_pos (by omega), if_pos (by omega)]
    · obtain ⟨k, rfl⟩ : ∃ m, k = m + 1 := ⟨k - 1, by omega⟩
      refine ⟨k, by omega, ?_⟩
      simp only [impl_FirstThrows.l1]
      rw [throw_eq B s (j : Int) s0 s1 (by omega) (by omega) k (by omega), w64 (rd U s - 1) (by omega) (by omega)]
      simp only [Option.bind_some]
      rw [if_pos hq.1, if_pos (by omega), if_pos s0, if_pos (by omega), if_pos (by omega), if_pos (by omega)]
  | succ d ih =>
    intro j f e j1 jf fb hf
    have hq := sqr_le (B.thr_sqr s (j : Int) hs (by omega) (by omega))
    by_cases hm : rd U (thr a c l s (j : Int)) = rd U s - 1
    · refine ⟨j, j1, by omega, by omega, fun k out hk ho => ?_, fun k out hk ho => ?_⟩
      · obtain ⟨k, rfl⟩ : ∃ m, k = m + 1 := ⟨k - 1, by omega⟩
        refine ⟨k, by omega, ?_⟩
        simp only [spec_FirstThrows.l1]
        rw [if_pos (by omega), sqThrow_eq B s (j : Int) s0 s1 (by omega) (by omega) k (by omega), w64 (rd U s - 1) (by omega) (by omega)]
        simp only [Option.bind_some]
        rw [if_pos hq.1, if_pos (by omega), if_pos (by omega), if_pos (by omega)]
      · obtain ⟨k, rfl⟩ : ∃ m, k = m + 1 := ⟨k - 1, by omega⟩
        refine ⟨k, by omega, ?_⟩
        simp only [impl_FirstThrows.l1]
        rw [throw_eq B s (j : Int) s0 s1 (by omega) (by omega) k (by omega), w64 (rd U s - 1) (by omega) (by omega)]
        simp only [Option.bind_some]
        rw [if_pos hq.1, if_pos (by omega), if_pos s0, if_pos (by omega), if_pos (by omega), if_pos (by omega)]
    · have hjf : (j : Int) ≠ f := fun x => by rw [← x] at hf; omega
      obtain ⟨g, g1, g2, g3, g4, g5⟩ := ih (j + 1) f (by omega) (by omega) (by omega) fb hf
      refine ⟨g, g1, g2, g3, fun k out hk ho => ?_, fun k out hk ho => ?_⟩
      · obtain ⟨k, rfl⟩ : ∃ m, k = m + 1 := ⟨k - 1, by omega⟩
        obtain ⟨k', hk', e'⟩ := g4 k out (by omega) ho
        refine ⟨k', by omega, ?_⟩
        simp only [spec_FirstThrows.l1]
        rw [if_pos (by omega), sqThrow_eq B s (j : Int) s0 s1 (by omega) (by omega) k (by omega), w64 (rd U s - 1) (by omega) (by omega)]
        simp only [Option.bind_some]
        rw [if_pos hq.1, if_pos (by omega), if_neg hm, w64_succ (by omega)]
        exact e'
      · obtain ⟨k, rfl⟩ : ∃ m, k = m + 1 := ⟨k - 1, by omega⟩
        obtain ⟨k', hk', e'⟩ := g5 k out (by omega) ho
        refine ⟨k', by omega, ?_⟩
        simp only [impl_FirstThrows.l1]
        rw [throw_eq B s (j : Int) s0 s1 (by omega) (by omega) k (by omega), w64 (rd U s - 1) (by omega) (by omega)]
        simp only [Option.bind_some]
        rw [if_pos hq.1, if_pos (by omega), if_pos s0, if_pos (by omega), if_neg hm, w64_succ (by omega)]
        exact e'

theorem first_l0 {a b c : Int} {l : List S27} (B : Board a b c l) {U : List Int} (hU : Far a b c l U) : ∀ (n : Nat) (s : Int) (out : List Int), sqr a l s = true → rd U s = n → out.length + n ≤ 1000 →
    ∃ r : List Int, r.length ≤ 1000 ∧ ∀ k, 50 * n + 50 ≤ k → spec_FirstThrows.l0 k s U out (rd U s) a b c l = some (r, true) ∧ impl_FirstThrows.l0 k s U out a b c l = some (r, true)
  | 0, s, out, hs, hn, ho => by
    have hsa : s = a := by
      obtain ⟨s0, s1⟩ := sqr_le hs
      refine Decidable.byContradiction fun hne => ?_
      obtain ⟨_, f, f1, f2, f3, f4⟩ := hU.down s s0 (by omega) (by omega)
      omega
    refine ⟨out, by omega, fun k hk => ?_⟩
    obtain ⟨k, rfl⟩ : ∃ m, k = m + 1 := ⟨k - 1, by omega⟩
    simp only [spec_FirstThrows.l0, impl_FirstThrows.l0]
    rw [if_neg (by omega), if_pos hsa]
    exact ⟨rfl, rfl⟩
  | n + 1, s, out, hs, hn, ho => by
    have hb := B.b1; have hb2 := B.b2
    obtain ⟨s0, s1⟩ := sqr_le hs
    have hsa : s ≠ a := fun e => by have := hU.last; rw [← e] at this; omega
    obtain ⟨_, f, f1, f2, f3, f4⟩ := hU.down s s0 (by omega) (by omega)
    obtain ⟨g, g1, g2, g3, g4, g5⟩ := nearer_is B hU hs (by omega) (hU.hi s s0 s1) (b.toNat - 1) 1 f (by omega) (by omega) (by omega) f2 f4
    obtain ⟨r, hr, h⟩ := first_l0 B hU n (thr a c l s (g : Int)) (out ++ [(g : Int)]) (B.thr_sqr s (g : Int) hs (by omega) g2) (by omega) (by rw [List.length_append, List.length_singleton]; omega)
    refine ⟨r, hr, fun k hk => ?_⟩
    obtain ⟨k, rfl⟩ : ∃ m, k = m + 1 := ⟨k - 1, by omega⟩
    obtain ⟨k1, hk1, e1⟩ := g4 k out (by omega) (by omega)
    obtain ⟨k2, hk2, e2⟩ := g5 k out (by omega) (by omega)
    rw [show ((1 : Nat) : Int) = 1 from rfl] at e1 e2
    simp only [spec_FirstThrows.l0, impl_FirstThrows.l0]
    rw [if_pos (by omega), if_neg hsa, e1, e2, show rd U s - 1 = rd U (thr a c l s (g : Int)) by omega]
    exact ⟨(h k1 (by omega)).1, (h k2 (by omega)).2⟩

theorem FirstThrows_same (a b c : Int) (l : List S27) (s : Int) : ∃ (K : Nat) (r : List Int × Bool), r.1.length ≤ 1048576 ∧ ∀ k, K ≤ k → spec_FirstThrows.f k a b c l s = some r ∧ impl_FirstThrows.f k a b c l s = some r := by
  by_cases h : (good a b c l && sqr a l s) = true
  · have h' := h
    simp only [Bool.and_eq_true, decide_eq_true_eq] at h'
    have B := Board.of_good h'.1
    have := B.a1; have := B.a2
    obtain ⟨s0, s1⟩ := sqr_le h'.2
    obtain ⟨U, hU, hf⟩ := far_eq B
    have hl := hU.len
    have hh := hU.hi s s0 s1
    by_cases hn : rd U s < 0
    · refine ⟨700000, ([], false), by simp, fun k hk => ?_⟩
      unfold spec_FirstThrows.f impl_FirstThrows.f
      rw [sqAsked_eq a b c l s k (by omega), areSquares_eq a b c l _ k (by omega), one_square, h, (hf k (by omega)).1, (hf k (by omega)).2]
      simp only [Option.bind_some]
      rw [if_pos trivial, if_pos trivial, if_pos s0, if_pos s0, if_pos (show s < (U.length : Int) by omega), if_pos (show s < (U.length : Int) by omega), if_pos hn, if_pos hn]
      exact ⟨rfl, rfl⟩
    · obtain ⟨r, hr, hh2⟩ := first_l0 B hU (rd U s).toNat s [] h'.2 (by omega) (by simp; omega)
      refine ⟨700000, (r, true), by show r.length ≤ 1048576; omega, fun k hk => ?_⟩
      unfold spec_FirstThrows.f impl_FirstThrows.f
      rw [sqAsked_eq a b c l s k (by omega), areSquares_eq a b c l _ k (by omega), one_square, h, (hf k (by omega)).1, (hf k (by omega)).2]
      simp only [Option.bind_some]
      rw [if_pos trivial, if_pos trivial, if_pos s0, if_pos s0, if_pos (show s < (U.length : Int) by omega), if_pos (show s < (U.length : Int) by omega), if_neg hn, if_neg hn]
      exact hh2 k (by omega)
  · refine ⟨100, ([], false), by simp, fun k hk => ?_⟩
    unfold spec_FirstThrows.f impl_FirstThrows.f
    rw [sqAsked_eq a b c l s k (by omega), areSquares_eq a b c l _ k (by omega), one_square]
    simp only [Option.bind_some]
    rw [if_neg h, if_neg h]
    exact ⟨rfl, rfl⟩

attribute [local congr] bind_weak in
theorem FnExactFirstThrows : laws_FnExactFirstThrows.Pure := by
  intro a b c l s wa wb wc hm hw w_s
  by_cases hlen : l.length ≤ 1048576
  case neg =>
    refine ⟨0, ?_⟩
    unfold laws_FnExactFirstThrows.f
    rw [szBoard_eq a b c l _ (by omega) (by omega) hm]
    simp only [Option.bind_some]
    rw [if_pos (by rw [if_neg (by omega)]; omega)]
  obtain ⟨K, ⟨r, y⟩, hl0, hr⟩ := FirstThrows_same a b c (l.map conv) s
  have hl' : r.length ≤ 1048576 := hl0
  obtain ⟨n, hn⟩ : ∃ n, n = 2097300 + K := ⟨_, rfl⟩
  have h0 := fun k hk => (hr k hk).1
  have h1 := fun k hk => (hr k hk).2
  refine ⟨n + 4, ?_⟩
  have hT := fun k hk => toBoard_eq a b c l hlen k hk
  have hE := fun k hk => eqBoard_same a b c (l.map conv) (by rw [List.length_map]; omega) k hk
  have hlm : (l.map conv).length = l.length := List.length_map ..
  have hS := fun k hk => eqIntS_eq r r (by omega) k hk
  have hMB := fun k hk => markBoard_eq a b c (l.map conv) (by rw [List.length_map]; omega) k hk
  have hM := fun k hk => markIntS_eq r (by omega) k hk
  have hH := fun k hk => heldIntS_eq r.length (by omega) k hk
  have hn1 : (1 + (r.length : Int) < 0) = False := eq_false (by omega)
  have hn2 : (1 + 2 * ((l.map conv).length : Int) < 0) = False := eq_false (by omega)
  have hz := szBoard_eq a b c l 1048576 (by omega) (by omega) hm
  have hz2 : ((if (l.length : Int) ≤ 1048576 then 1048576 - (l.length : Int) else -1) < 0) = False := eq_false (by rw [if_pos (by omega)]; omega)
  generalize l.map conv = L at *
  unfold laws_FnExactFirstThrows.f
  simp (disch := omega) only [↓reduceIte, hz, hz2, Option.bind_some, bne_self_eq_false, Bool.false_eq_true, decide_true, laws_FnExactFirstThrows.j0, laws_FnExactFirstThrows.j1, laws_FnExactFirstThrows.j2, hT, h0, h1, hE, hS, hMB, hM, hH, hn1, hn2]


end Go.Proofs.Ytkobjjadojpjfaa.Pure
