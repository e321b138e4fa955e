/- Proved here: the law FnExactAddJump answers true at all that comes in; no other condition. -/
import Derived.Test.YtkobjjadojpjfaaSFnExactAddJump
import Derived.Test.YtkobjjadojpjfaaPL15
import Derived.Test.YtkobjjadojpjfaaPL1H
namespace Go.Proofs.Ytkobjjadojpjfaa.Pure
open Go.RowKit Go.Proofs.Ytkobjjadojpjfaa.Pr Go.Proofs.YtkobjjadojpjfaaW.PrintWords Go.Proofs.YtkobjjadojpjfaaW.PrintLast
set_option linter.unusedSimpArgs false
set_option linter.unusedVariables false

theorem good_len {a b c : Int} {l : List S27} (h : l.length = 21) : good a b c l = false := by
  cases hg : good a b c l with
  | false => rfl
  | true => have := (Board.of_good hg).len; omega

theorem AddJump_same (a b c : Int) (l : List S27) (p q : Int) (hl0 : l.length ≤ 1048576) : ∃ (K : Nat) (r : Int × Int × Int × (List S27) × Bool), r.2.2.2.1.length ≤ 1048576 ∧ ∀ k, K ≤ k → spec_AddJump.f k a b c l p q = some r ∧ impl_AddJump.f k a b c l p q = some r := by
  by_cases h : good a b c l = true
  · have hl := (Board.of_good h).len
    have hO := good_ord h
    have hs : ∀ k, 15000 ≤ k → spec_AddJump.f k a b c l p q = if good a b c (insL ⟨p, q⟩ l) = true then some (a, b, c, insL ⟨p, q⟩ l, true) else some (0, 0, 0, [], false) := fun k hk => by
      unfold spec_AddJump.f
      rw [sqGood_eq a b c l k (by omega), h]
      simp only [Option.bind_some, if_true]
      rw [sqWith_eq a b c l (by omega) p q k (by omega)]
      simp only [Option.bind_some]
      rw [sqGood_eq a b c _ k (by omega)]
      rfl
    have hi : ∀ k, 15000 ≤ k → ∀ y : List S27, impl_Jump_204.f k (l ++ [⟨p, q⟩]) cmpV = some y → impl_AddJump.f k a b c l p q = if good a b c y = true then some (a, b, c, y, true) else some (0, 0, 0, [], false) := fun k hk y hy => by
      unfold impl_AddJump.f impl_Board_added.f impl_checked.f cloneJumps.f impl_Board_with.f
      rw [isBoard_eq a b c l k (by omega), h]
      simp only [Option.bind_some, if_true]
      rw [if_pos (show l.length < 8796093022208 by omega)]
      simp only [Option.bind_some]
      rw [if_pos (show l.length + [(⟨p, q⟩ : S27)].length < 8796093022208 by rw [List.length_singleton]; omega), hy]
      simp only [Option.bind_some]
      rw [isBoard_eq a b c y k (by omega)]
      simp only [Option.bind_some]
      split <;> rfl
    have hlen := insL_length ⟨p, q⟩ l
    by_cases h20 : l.length = 20
    · have hg : good a b c (insL ⟨p, q⟩ l) = false := good_len (by omega)
      refine ⟨15000, (0, 0, 0, [], false), by simp, fun k hk => ⟨?_, ?_⟩⟩
      · rw [hs k hk, hg]; rfl
      · obtain ⟨y, hy, e⟩ := ex_sort (l ++ [⟨p, q⟩]) (by rw [List.length_append, List.length_singleton]; omega) k (by omega)
        rw [hi k hk y e, good_len hy]; rfl
    · refine ⟨15000, if good a b c (insL ⟨p, q⟩ l) = true then (a, b, c, insL ⟨p, q⟩ l, true) else (0, 0, 0, [], false), ?_, fun k hk => ⟨?_, ?_⟩⟩
      · split
        · show (insL ⟨p, q⟩ l).length ≤ 1048576
          omega
        · simp
      · rw [hs k hk]
        split <;> rfl
      · have e := sort_eq (l ++ [⟨p, q⟩]) (by rw [List.length_append, List.length_singleton]; omega) k (by omega)
        rw [insAll_app, insAll_ord l [] (by rw [List.nil_append]; exact hO), List.nil_append] at e
        rw [hi k hk _ e]
        show (if good a b c (insL ⟨p, q⟩ l) = true then some (a, b, c, insL ⟨p, q⟩ l, true) else some (0, 0, 0, [], false)) = _
        split <;> rfl
  · refine ⟨100, (0, 0, 0, [], false), by simp, fun k hk => ?_⟩
    unfold spec_AddJump.f impl_AddJump.f
    rw [sqGood_eq a b c l k (by omega), isBoard_eq a b c l k (by omega)]
    simp only [Option.bind_some]
    rw [if_neg h, if_neg h]
    exact ⟨rfl, rfl⟩

attribute [local congr] bind_weak in
theorem FnExactAddJump : laws_FnExactAddJump.Pure := by
  intro a b c l p q wa wb wc hm hw w_p w_q
  by_cases hlen : l.length ≤ 1048576
  case neg =>
    refine ⟨0, ?_⟩
    unfold laws_FnExactAddJump.f
    rw [szBoard_eq a b c l _ (by omega) (by omega) hm]
    simp only [Option.bind_some]
    rw [if_pos (by rw [if_neg (by omega)]; omega)]
  obtain ⟨K, ⟨ra, rb, rc, r, y⟩, hl0, hr⟩ := AddJump_same a b c (l.map conv) p q (by rw [List.length_map]; omega)
  have hl' : r.length ≤ 1048576 := hl0
  obtain ⟨n, hn⟩ : ∃ n, n = 2097300 + K := ⟨_, rfl⟩
  have h0 := fun k hk => (hr k hk).1
  have h1 := fun k hk => (hr k hk).2
  refine ⟨n + 4, ?_⟩
  have hT := fun k hk => toBoard_eq a b c l hlen k hk
  have hE := fun k hk => eqBoard_same a b c (l.map conv) (by rw [List.length_map]; omega) k hk
  have hlm : (l.map conv).length = l.length := List.length_map ..
  have hS := fun k hk => eqBoard_same ra rb rc r (by omega) k hk
  have hMB := fun k hk => markBoard_eq a b c (l.map conv) (by rw [List.length_map]; omega) k hk
  have hM := fun k hk => markBoard_eq ra rb rc r (by omega) k hk
  have hH := fun k hk => heldBoard_eq ra rb rc r.length (by omega) k hk
  have hn1 : (1 + 2 * (r.length : Int) < 0) = False := eq_false (by omega)
  have hn2 : (1 + 2 * ((l.map conv).length : Int) < 0) = False := eq_false (by omega)
  have hz := szBoard_eq a b c l 1048576 (by omega) (by omega) hm
  have hz2 : ((if (l.length : Int) ≤ 1048576 then 1048576 - (l.length : Int) else -1) < 0) = False := eq_false (by rw [if_pos (by omega)]; omega)
  generalize l.map conv = L at *
  unfold laws_FnExactAddJump.f
  simp (maxSteps := 2000000) (disch := omega) only [↓reduceIte, hz, hz2, Option.bind_some, bne_self_eq_false, Bool.false_eq_true, decide_true, laws_FnExactAddJump.j0, laws_FnExactAddJump.j1, laws_FnExactAddJump.j2, hT, h0, h1, hE, hS, hMB, hM, hH, hn1, hn2, laws_toJump.f]


end Go.Proofs.Ytkobjjadojpjfaa.Pure
