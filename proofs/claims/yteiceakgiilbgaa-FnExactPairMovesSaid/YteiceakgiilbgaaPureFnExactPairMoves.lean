/- Proved here: the law FnExactPairMoves answers true at all that comes in; no other condition. -/
import Derived.Test.YteiceakgiilbgaaFLawsFnExactPairMoves
namespace Go.Proofs.Yteiceakgiilbgaa.Pure
open Go.RowKit Go.Proofs.Yteiceakgiilbgaa.Pr Go.Proofs.YteiceakgiilbgaaW.PrintWords Go.Proofs.YteiceakgiilbgaaW.PrintLast
set_option linter.unusedSimpArgs false
set_option linter.unusedVariables false

theorem w64 (x : Int) (h1 : -9223372036854775808 ≤ x) (h2 : x ≤ 9223372036854775807) : wrap64 x = x := by unfold wrap64; omega

def mv (s a b c : Int) : List Int := (if a + c ≤ s then [0] else []) ++ (if b + c ≤ s then [1] else [])

theorem mv_four (s a b c : Int) : mv s a b c = [] ∨ mv s a b c = [0] ∨ mv s a b c = [1] ∨ mv s a b c = [0, 1] := by
  unfold mv
  split <;> split <;> simp

theorem moves_eq {s f a b c : Int} (hs : s ≤ 6) (a0 : 0 ≤ a) (a1 : a ≤ s) (b0 : 0 ≤ b) (b1 : b ≤ s) (h1 : 1 ≤ c) (h4 : c ≤ 4) (k : Nat) (hk : 3 ≤ k) : impl_twins_moves.f k s f a b c = some (mv s a b c) := by
  obtain ⟨k, rfl⟩ : ∃ m, k = m + 1 + 1 + 1 := ⟨k - 3, by omega⟩
  have p0 : pick_.f a b 0 = some a := rfl
  have p1 : pick_.f a b 1 = some b := rfl
  have e1 : wrap64 (0 + 1) = 1 := by rw [w64 _ (by omega) (by omega)]; rfl
  have e2 : wrap64 (1 + 1) = 2 := by rw [w64 _ (by omega) (by omega)]; rfl
  have q0 : wrap64 (a + c) = a + c := w64 _ (by omega) (by omega)
  have q1 : wrap64 (b + c) = b + c := w64 _ (by omega) (by omega)
  unfold impl_twins_moves.f mv
  simp only [impl_twins_moves.l0, p0, p1, e1, e2, q0, q1, Option.bind_some]
  by_cases g0 : a + c ≤ s <;> by_cases g1 : b + c ≤ s <;> simp [g0, g1]

theorem within_some (a b c : Int) : impl_within.f a b c = some (decide (b ≤ a ∧ a ≤ c)) := by
  unfold impl_within.f
  by_cases h : a ≥ b
  · rw [if_pos h]; have h' : b ≤ a := h; simp [h']
  · rw [if_neg h]; have h' : ¬ b ≤ a := h; simp [h']

theorem l1In_some (a b c : Int) : spec_l1In.f a b c = some (decide (b ≤ a ∧ a ≤ c)) := by
  unfold spec_l1In.f
  by_cases h : a ≥ b
  · rw [if_pos h]; have h' : b ≤ a := h; simp [h']
  · rw [if_neg h]; have h' : ¬ b ≤ a := h; simp [h']

def okP (s f a b : Int) : Bool := decide (1 ≤ s ∧ s ≤ 6) && (decide (1 ≤ f ∧ f ≤ 4) && (decide (0 ≤ a ∧ a ≤ s) && decide (0 ≤ b ∧ b ≤ s)))

theorem isPair_eq (s f a b : Int) : impl_IsPair.f s f a b = some (okP s f a b) := by
  unfold impl_IsPair.f okP
  simp only [within_some, Option.bind_some]
  cases decide (1 ≤ s ∧ s ≤ 6) <;> cases decide (1 ≤ f ∧ f ≤ 4) <;> cases decide (0 ≤ a ∧ a ≤ s) <;> rfl

theorem oiGood_eq (s f a b : Int) : spec_oiGood.f s f a b = some (okP s f a b) := by
  unfold spec_oiGood.f okP
  simp only [l1In_some, Option.bind_some]
  cases decide (1 ≤ s ∧ s ≤ 6) <;> cases decide (1 ≤ f ∧ f ≤ 4) <;> cases decide (0 ≤ a ∧ a ≤ s) <;> rfl

def res (s f a b c : Int) : List Int × Bool := if okP s f a b = true ∧ 1 ≤ c ∧ c ≤ f then (mv s a b c, true) else ([], false)

theorem impl_eq (s f a b c : Int) (k : Nat) (hk : 3 ≤ k) : impl_PairMoves.f k s f a b c = some (res s f a b c) := by
  unfold impl_PairMoves.f impl_twinsOf.f impl_twins_isFace.f res
  rw [isPair_eq]
  simp only [within_some, Option.bind_some]
  by_cases h : okP s f a b = true
  · rw [if_pos h]
    by_cases g : 1 ≤ c ∧ c ≤ f
    · have hh := h
      unfold okP at hh
      simp only [Bool.and_eq_true, decide_eq_true_eq] at hh
      obtain ⟨⟨s1, s2⟩, ⟨f1, f2⟩, ⟨a1, a2⟩, b1, b2⟩ := hh
      rw [if_pos (decide_eq_true g), if_pos (⟨h, g⟩ : okP s f a b = true ∧ 1 ≤ c ∧ c ≤ f), moves_eq s2 a1 a2 b1 b2 g.1 (by omega) k hk]
      rfl
    · rw [if_neg (by rw [decide_eq_false g]; decide), if_neg (fun e => g e.2)]
  · rw [if_neg h, if_neg (fun e => h e.1)]

theorem spec_eq (s f a b c : Int) (k : Nat) (hk : 1 ≤ k) : spec_PairMoves.f k s f a b c = some (res s f a b c) := by
  obtain ⟨k, rfl⟩ : ∃ m, k = m + 1 := ⟨k - 1, by omega⟩
  unfold spec_PairMoves.f res
  rw [oiGood_eq]
  simp only [l1In_some, Option.bind_some, spec_PairMoves.j0]
  by_cases h : okP s f a b = true
  · rw [if_pos h]
    by_cases g : 1 ≤ c ∧ c ≤ f
    · have hh := h
      unfold okP at hh
      simp only [Bool.and_eq_true, decide_eq_true_eq] at hh
      obtain ⟨⟨s1, s2⟩, ⟨f1, f2⟩, ⟨a1, a2⟩, b1, b2⟩ := hh
      rw [if_pos (⟨h, g⟩ : okP s f a b = true ∧ 1 ≤ c ∧ c ≤ f), if_neg (by rw [decide_eq_true g]; decide), w64 (a + c) (by omega) (by omega), w64 (b + c) (by omega) (by omega)]
      unfold mv
      by_cases g0 : a + c ≤ s <;> by_cases g1 : b + c ≤ s <;> simp [g0, g1]
    · rw [if_pos (by rw [decide_eq_false g]; rfl), if_neg (fun e => g e.2 : ¬ (okP s f a b = true ∧ 1 ≤ c ∧ c ≤ f))]
  · rw [if_neg h, if_neg (fun e => h e.1 : ¬ (okP s f a b = true ∧ 1 ≤ c ∧ c ≤ f)), if_pos trivial]

theorem tail (r : List Int) (hr : r = [] ∨ r = [0] ∨ r = [1] ∨ r = [0, 1]) : (laws_eqIntS.f 20 r r = some true ∧ laws_eqIntS.f 19 r r = some true) ∧ ∃ (m : Int) (r' : List Int), laws_markIntS.f 19 r 1 = some (m, r') ∧ laws_heldIntS.f 19 r' 1 = some m ∧ laws_heldIntS.f 18 r' 1 = some m ∧ ¬ m < 0 := by
  rcases hr with rfl | rfl | rfl | rfl
  · exact ⟨⟨by kernel_rfl, by kernel_rfl⟩, 1, [], by kernel_rfl, by kernel_rfl, by kernel_rfl, by decide⟩
  · exact ⟨⟨by kernel_rfl, by kernel_rfl⟩, 2, [1], by kernel_rfl, by kernel_rfl, by kernel_rfl, by decide⟩
  · exact ⟨⟨by kernel_rfl, by kernel_rfl⟩, 2, [1], by kernel_rfl, by kernel_rfl, by kernel_rfl, by decide⟩
  · exact ⟨⟨by kernel_rfl, by kernel_rfl⟩, 3, [1, 2], by kernel_rfl, by kernel_rfl, by kernel_rfl, by decide⟩

theorem FnExactPairMoves : laws_FnExactPairMoves.Pure := by
  intro s f a b c _ _ _ _ _
  have hr : (res s f a b c).1 = [] ∨ (res s f a b c).1 = [0] ∨ (res s f a b c).1 = [1] ∨ (res s f a b c).1 = [0, 1] := by
    unfold res
    split
    · exact mv_four s a b c
    · exact .inl rfl
  have h1 := spec_eq s f a b c 20 (by omega)
  have h2 := impl_eq s f a b c 20 (by omega)
  have h3 := impl_eq s f a b c 19 (by omega)
  revert hr h1 h2 h3
  generalize res s f a b c = p
  obtain ⟨r, y⟩ := p
  intro hr h1 h2 h3
  obtain ⟨⟨e1, e2⟩, m, r', g1, g2, g3, g4⟩ := tail r hr
  refine ⟨20, ?_⟩
  unfold laws_FnExactPairMoves.f
  rw [h1, h2]
  simp only [Option.bind_some]
  rw [e1]
  simp only [Option.bind_some, if_true, bne_self_eq_false, laws_FnExactPairMoves.j0]
  rw [if_neg (by decide), g1]
  simp only [Option.bind_some]
  rw [g2]
  simp only [Option.bind_some]
  rw [if_neg g4, if_pos trivial, h3]
  simp only [Option.bind_some]
  rw [e2]
  simp only [Option.bind_some, if_true, bne_self_eq_false, laws_FnExactPairMoves.j1]
  rw [if_neg (by decide), g3]
  simp only [Option.bind_some]
  rw [if_neg g4, if_pos trivial]

end Go.Proofs.Yteiceakgiilbgaa.Pure
