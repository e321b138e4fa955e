/- Proved here: the law FnExactCountSame answers true at all that comes in; no other condition. -/
import Derived.Test.YteiceakgiilbgaaFLawsFnExactCountSame
import Derived.Test.YteiceakgiilbgaaHCountSame
import Derived.Test.YteiceakgiilbgaaCS0
import Derived.Test.YteiceakgiilbgaaCS1
import Derived.Test.YteiceakgiilbgaaCS2
namespace Go.Proofs.Yteiceakgiilbgaa.Pure
open Go.RowKit Go.Proofs.Yteiceakgiilbgaa.Pr Go.Proofs.YteiceakgiilbgaaW.PrintWords Go.Proofs.YteiceakgiilbgaaW.PrintLast
set_option linter.unusedSimpArgs false
set_option linter.unusedVariables false

theorem counted_all : ∀ (m : Nat), m ≤ 8 → ∀ d : Fin 8, ∀ n : Fin 12, impl_counted.f 3000 ((d.val + 1 : Nat) : Int) ((n.val + 1 : Nat) : Int) (mostV (m : Int)) = some (rd (MR m (n.val + 1)) ((d.val + 1 : Nat) : Int))
  | 0, _ => counted_0
  | 1, _ => counted_1
  | 2, _ => counted_2
  | 3, _ => counted_3
  | 4, _ => counted_4
  | 5, _ => counted_5
  | 6, _ => counted_6
  | 7, _ => counted_7
  | 8, _ => counted_8
  | m + 9, h => by omega

theorem asked_in (a0 a1 : Int) (h : (1 ≤ a0 ∧ a0 ≤ 8) ∧ (1 ≤ a1 ∧ a1 ≤ 12)) : spec_diAsked.f a0 a1 = some true ∧ impl_areDice.f a0 a1 = some true := by
  unfold spec_diAsked.f spec_l1In.f impl_areDice.f impl_within.f
  obtain ⟨⟨c1, c2⟩, c3, c4⟩ := h
  simp [c1, c2, c3, c4]

theorem asked_out (a0 a1 : Int) (h : ¬ ((1 ≤ a0 ∧ a0 ≤ 8) ∧ (1 ≤ a1 ∧ a1 ≤ 12))) : spec_diAsked.f a0 a1 = some false ∧ impl_areDice.f a0 a1 = some false := by
  unfold spec_diAsked.f spec_l1In.f impl_areDice.f impl_within.f
  by_cases c1 : a0 ≥ 1
  · by_cases c2 : a0 ≤ 8
    · by_cases c3 : a1 ≥ 1
      · have c4 : ¬ a1 ≤ 12 := fun x => h ⟨⟨c1, c2⟩, c3, x⟩
        simp [c1, c2, c3, c4]
      · simp [c1, c2, c3]
    · simp [c1, c2]
  · simp [c1]

theorem same_in (a2 : Int) (h : 1 ≤ a2 ∧ a2 ≤ 8) : spec_l1In.f a2 1 8 = some true ∧ impl_within.f a2 1 8 = some true := by
  unfold spec_l1In.f impl_within.f
  simp [h]

theorem same_out (a2 : Int) (h : ¬ (1 ≤ a2 ∧ a2 ≤ 8)) : spec_l1In.f a2 1 8 = some false ∧ impl_within.f a2 1 8 = some false := by
  unfold spec_l1In.f impl_within.f
  by_cases c : a2 ≥ 1
  · have c' : ¬ a2 ≤ 8 := fun x => h ⟨c, x⟩
    simp [c, c']
  · simp [c]

theorem law_in (K : Nat) (a0 a1 a2 x y : Int) (e1 : spec_diAsked.f a0 a1 = some true) (e2 : impl_areDice.f a0 a1 = some true) (e3 : spec_l1In.f a2 1 8 = some true) (e4 : impl_within.f a2 1 8 = some true)
    (c1 : impl_counted.f (K + 1) a0 a1 (mostV a2) = some x) (c2 : impl_counted.f (K + 1) a0 a1 (mostV (wrap64 (a2 - 1))) = some y) (s1 : spec_diMost.f K a0 a1 a2 = some x) (s2 : spec_diMost.f K a0 a1 (wrap64 (a2 - 1)) = some y) : laws_FnExactCountSame.f (K + 1) a0 a1 a2 = some true := by
  unfold laws_FnExactCountSame.f spec_CountSame.f impl_CountSame.f
  rw [e1, e2, e3, e4, c1, c2]
  simp only [Option.bind_some, if_true, Bool.not_true, spec_CountSame.j0]
  rw [if_neg (by decide), s1, s2]
  simp

theorem law_mid (K : Nat) (a0 a1 a2 : Int) (e1 : spec_diAsked.f a0 a1 = some true) (e2 : impl_areDice.f a0 a1 = some true) (e3 : spec_l1In.f a2 1 8 = some false) (e4 : impl_within.f a2 1 8 = some false) : laws_FnExactCountSame.f (K + 1) a0 a1 a2 = some true := by
  unfold laws_FnExactCountSame.f spec_CountSame.f impl_CountSame.f
  rw [e1, e2]
  simp only [Option.bind_some]
  rw [if_pos trivial, if_pos trivial]
  rw [e3, e4]
  simp [spec_CountSame.j0]

theorem law_out (K : Nat) (a0 a1 a2 : Int) (e1 : spec_diAsked.f a0 a1 = some false) (e2 : impl_areDice.f a0 a1 = some false) : laws_FnExactCountSame.f (K + 1) a0 a1 a2 = some true := by
  unfold laws_FnExactCountSame.f spec_CountSame.f impl_CountSame.f
  rw [e1, e2]
  simp [spec_CountSame.j0]

theorem counts_of (K d n m : Nat) (hd : d < 8) (hn : n < 12) (hm : m ≤ 8) (hK : K = 2999) : impl_counted.f (K + 1) ((d + 1 : Nat) : Int) ((n + 1 : Nat) : Int) (mostV (m : Int)) = some (rd (MR m (n + 1)) ((d + 1 : Nat) : Int)) := by
  have := counted_all m hm ⟨d, hd⟩ ⟨n, hn⟩
  rw [show (3000 : Nat) = K + 1 by omega] at this
  exact this

theorem FnExactCountSame : laws_FnExactCountSame.Pure := by
  intro a0 a1 a2 w0 w1 w2
  obtain ⟨K, hK⟩ : ∃ K : Nat, K = 2999 := ⟨_, rfl⟩
  refine ⟨K + 1, ?_⟩
  by_cases h : (1 ≤ a0 ∧ a0 ≤ 8) ∧ (1 ≤ a1 ∧ a1 ≤ 12)
  · obtain ⟨e1, e2⟩ := asked_in a0 a1 h
    by_cases h2 : 1 ≤ a2 ∧ a2 ≤ 8
    · obtain ⟨e3, e4⟩ := same_in a2 h2
      obtain ⟨d, hd⟩ : ∃ d : Nat, a0 = ((d + 1 : Nat) : Int) := ⟨(a0 - 1).toNat, by omega⟩
      obtain ⟨n, hn⟩ : ∃ n : Nat, a1 = ((n + 1 : Nat) : Int) := ⟨(a1 - 1).toNat, by omega⟩
      obtain ⟨m, hm⟩ : ∃ m : Nat, a2 = ((m + 1 : Nat) : Int) := ⟨(a2 - 1).toNat, by omega⟩
      have ew : wrap64 (a2 - 1) = (m : Int) := by rw [w64 _ (by omega) (by omega)]; omega
      refine law_in K a0 a1 a2 (rd (MR (m + 1) (n + 1)) ((d + 1 : Nat) : Int)) (rd (MR m (n + 1)) ((d + 1 : Nat) : Int)) e1 e2 e3 e4 ?_ ?_ ?_ ?_
      · rw [hd, hn, hm]; exact counts_of K d n (m + 1) (by omega) (by omega) (by omega) hK
      · rw [ew, hd, hn]; exact counts_of K d n m (by omega) (by omega) (by omega) hK
      · rw [hd, hn, hm]; exact most_eq (m + 1) (by omega) (n + 1) (d + 1) K (by omega) (by omega) (by omega)
      · rw [ew, hd, hn]; exact most_eq m (by omega) (n + 1) (d + 1) K (by omega) (by omega) (by omega)
    · obtain ⟨e3, e4⟩ := same_out a2 h2
      exact law_mid K a0 a1 a2 e1 e2 e3 e4
  · obtain ⟨e1, e2⟩ := asked_out a0 a1 h
    exact law_out K a0 a1 a2 e1 e2

end Go.Proofs.Yteiceakgiilbgaa.Pure
