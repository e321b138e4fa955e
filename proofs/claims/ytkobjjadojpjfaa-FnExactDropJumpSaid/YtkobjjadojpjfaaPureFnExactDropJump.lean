/- Proved here: the law FnExactDropJump answers true at all that comes in; no other condition. -/
import Derived.Test.YtkobjjadojpjfaaSFnExactDropJump
import Derived.Test.YtkobjjadojpjfaaPL13
import Derived.Test.YtkobjjadojpjfaaPL14
import Derived.Test.YtkobjjadojpjfaaPL1H
namespace Go.Proofs.Ytkobjjadojpjfaa.Pure
open Go.RowKit Go.Proofs.Ytkobjjadojpjfaa.Pr Go.Proofs.YtkobjjadojpjfaaW.PrintWords Go.Proofs.YtkobjjadojpjfaaW.PrintLast
set_option linter.unusedSimpArgs false
set_option linter.unusedVariables false

theorem drop_none (a b c s : Int) (l : List S27) (hl : l.length ≤ 1000) : ∀ (d i k : Nat), i + d = l.length → d < k → (∀ j, (h : j < l.length) → i ≤ j → l[j].f0 ≠ s) → spec_DropJump.l0 k s l (l.length : Int) (i : Int) a b c l = some (0, 0, 0, [], false)
  | 0, i, k, h1, h2, h3 => by
    obtain ⟨k, rfl⟩ : ∃ m, k = m + 1 := ⟨k - 1, by omega⟩
    simp only [spec_DropJump.l0]
    rw [if_neg (by omega)]
  | d + 1, i, k, h1, h2, h3 => by
    obtain ⟨k, rfl⟩ : ∃ m, k = m + 1 := ⟨k - 1, by omega⟩
    have hi : i < l.length := by omega
    simp only [spec_DropJump.l0]
    rw [if_pos (by omega), if_pos (nat_nn i), if_pos (by omega), rdJ_at hi, if_neg (h3 i hi (Nat.le_refl i)), w64_succ (by omega)]
    exact drop_none a b c s l hl d (i + 1) k (by omega) (by omega) (fun j hj h => h3 j hj (by omega))

theorem drop_some (a b c s : Int) (l : List S27) (hl : l.length ≤ 1000) (m : Nat) (hm : m < l.length) (hs : l[m].f0 = s) : ∀ (d i k : Nat), i + d = m → d < k → (∀ j, (h : j < m) → i ≤ j → (l[j]'(by omega)).f0 ≠ s) → spec_DropJump.l0 k s l (l.length : Int) (i : Int) a b c l = some (a, b, c, l.take m ++ l.drop (m + 1), true)
  | 0, i, k, h1, h2, h3 => by
    obtain ⟨k, rfl⟩ : ∃ m, k = m + 1 := ⟨k - 1, by omega⟩
    obtain rfl : i = m := by omega
    simp only [spec_DropJump.l0]
    rw [if_pos (by omega), if_pos (nat_nn i), if_pos (by omega), rdJ_at hm, if_pos hs, w64_succ (by omega)]
    simp only [Option.bind_some, Int.toNat_natCast, List.nil_append, List.length_nil, Nat.zero_add]
    have ht : (l.take i).length ≤ 1000 := by rw [List.length_take]; omega
    have hd : (l.drop (i + 1)).length ≤ 1000 := by rw [List.length_drop]; omega
    rw [if_pos (show (i : Int) ≤ (l.length : Int) by omega), if_pos (show (l.take i).length < 8796093022208 by omega), if_pos (nat_nn (i + 1)), if_pos (show ((i + 1 : Nat) : Int) ≤ (l.length : Int) by omega), if_pos (show (l.take i).length + (l.drop (i + 1)).length < 8796093022208 by omega)]
  | d + 1, i, k, h1, h2, h3 => by
    obtain ⟨k, rfl⟩ : ∃ m, k = m + 1 := ⟨k - 1, by omega⟩
    have hi : i < l.length := by omega
    simp only [spec_DropJump.l0]
    rw [if_pos (by omega), if_pos (nat_nn i), if_pos (by omega), rdJ_at hi, if_neg (h3 i (by omega) (Nat.le_refl i)), w64_succ (by omega)]
    exact drop_some a b c s l hl m hm hs d (i + 1) k (by omega) (by omega) (fun j hj h => h3 j hj (by omega))

theorem DropJump_same (a b c : Int) (l : List S27) (s : Int) (hl0 : l.length ≤ 1048576) : ∃ (K : Nat) (r : Int × Int × Int × (List S27) × Bool), r.2.2.2.1.length ≤ 1048576 ∧ ∀ k, K ≤ k → spec_DropJump.f k a b c l s = some r ∧ impl_DropJump.f k a b c l s = some r := by
  by_cases h : good a b c l = true
  · have B := Board.of_good h
    have hl := B.len
    have hO := good_ord h
    have key : ∀ k, 15000 ≤ k → impl_DropJump.f k a b c l s = if ((l.filter (fun y => y.f0 != s)).length : Int) = (l.length : Int) then some (0, 0, 0, [], false) else some (a, b, c, l.filter (fun y => y.f0 != s), true) := fun k hk => by
      unfold impl_DropJump.f
      rw [isBoard_eq a b c l k (by omega), h]
      simp only [Option.bind_some, if_true]
      rw [jumps_eq (dropV s) (fun y => y.f0 != s) (fun _ => rfl) a b c l (by omega) k (by omega)]
      simp only [Option.bind_some]
      rw [with_eq a b c l (l.filter (fun y => y.f0 != s)) (Nat.le_trans (List.length_filter_le _ _) hl) k (by omega), insAll_ord (l.filter (fun y => y.f0 != s)) [] (by rw [List.nil_append]; exact hO.filter _)]
      rfl
    have hkey2 : ∀ k, 15000 ≤ k → spec_DropJump.f k a b c l s = spec_DropJump.l0 k s l (l.length : Int) ((0 : Nat) : Int) a b c l := fun k hk => by
      unfold spec_DropJump.f
      rw [sqGood_eq a b c l k (by omega), h]
      rfl
    by_cases hm : ∃ m, ∃ hm : m < l.length, l[m].f0 = s
    · obtain ⟨m, hm, e⟩ := hm
      have hne : ∀ j, (hj : j < m) → (l[j]'(by omega)).f0 ≠ s := fun j hj => by
        have := List.pairwise_iff_getElem.mp hO j m (by omega) hm hj
        omega
      have ef := ord_drop hO s m hm e
      refine ⟨15000, (a, b, c, l.take m ++ l.drop (m + 1), true), ?_, fun k hk => ⟨?_, ?_⟩⟩
      · show (l.take m ++ l.drop (m + 1)).length ≤ 1048576
        rw [List.length_append, List.length_take, List.length_drop]
        omega
      · rw [hkey2 k hk, drop_some a b c s l (by omega) m hm e m 0 k (by omega) (by omega) (fun j hj _ => hne j hj)]
      · rw [key k hk, ef, if_neg (by rw [List.length_append, List.length_take, List.length_drop]; omega)]
    · have hne : ∀ j, (hj : j < l.length) → l[j].f0 ≠ s := fun j hj e => hm ⟨j, hj, e⟩
      have ef : l.filter (fun y => y.f0 != s) = l := by
        rw [List.filter_eq_self]
        intro y hy
        obtain ⟨j, hj, rfl⟩ := List.mem_iff_getElem.mp hy
        exact bne_iff_ne.mpr (hne j hj)
      refine ⟨15000, (0, 0, 0, [], false), by simp, fun k hk => ⟨?_, ?_⟩⟩
      · rw [hkey2 k hk, drop_none a b c s l (by omega) l.length 0 k (by omega) (by omega) (fun j hj _ => hne j hj)]
      · rw [key k hk, ef, if_pos rfl]
  · refine ⟨100, (0, 0, 0, [], false), by simp, fun k hk => ?_⟩
    unfold spec_DropJump.f impl_DropJump.f
    rw [sqGood_eq a b c l k (by omega), isBoard_eq a b c l k (by omega)]
    simp only [Option.bind_some]
    rw [if_neg h, if_neg h]
    exact ⟨rfl, rfl⟩

attribute [local congr] bind_weak in
theorem FnExactDropJump : laws_FnExactDropJump.Pure := by
  intro a b c l s wa wb wc hm hw w_s
  by_cases hlen : l.length ≤ 1048576
  case neg =>
    refine ⟨0, ?_⟩
    unfold laws_FnExactDropJump.f
    rw [szBoard_eq a b c l _ (by omega) (by omega) hm]
    simp only [Option.bind_some]
    rw [if_pos (by rw [if_neg (by omega)]; omega)]
  obtain ⟨K, ⟨ra, rb, rc, r, y⟩, hl0, hr⟩ := DropJump_same a b c (l.map conv) s (by rw [List.length_map]; omega)
  have hl' : r.length ≤ 1048576 := hl0
  obtain ⟨n, hn⟩ : ∃ n, n = 2097300 + K := ⟨_, rfl⟩
  have h0 := fun k hk => (hr k hk).1
  have h1 := fun k hk => (hr k hk).2
  refine ⟨n + 4, ?_⟩
  have hT := fun k hk => toBoard_eq a b c l hlen k hk
  have hE := fun k hk => eqBoard_same a b c (l.map conv) (by rw [List.length_map]; omega) k hk
  have hlm : (l.map conv).length = l.length := List.length_map ..
  have hS := fun k hk => eqBoard_same ra rb rc r (by omega) k hk
  have hMB := fun k hk => markBoard_eq a b c (l.map conv) (by rw [List.length_map]; omega) k hk
  have hM := fun k hk => markBoard_eq ra rb rc r (by omega) k hk
  have hH := fun k hk => heldBoard_eq ra rb rc r.length (by omega) k hk
  have hn1 : (1 + 2 * (r.length : Int) < 0) = False := eq_false (by omega)
  have hn2 : (1 + 2 * ((l.map conv).length : Int) < 0) = False := eq_false (by omega)
  have hz := szBoard_eq a b c l 1048576 (by omega) (by omega) hm
  have hz2 : ((if (l.length : Int) ≤ 1048576 then 1048576 - (l.length : Int) else -1) < 0) = False := eq_false (by rw [if_pos (by omega)]; omega)
  generalize l.map conv = L at *
  unfold laws_FnExactDropJump.f
  simp (disch := omega) only [↓reduceIte, hz, hz2, Option.bind_some, bne_self_eq_false, Bool.false_eq_true, decide_true, laws_FnExactDropJump.j0, laws_FnExactDropJump.j1, laws_FnExactDropJump.j2, hT, h0, h1, hE, hS, hMB, hM, hH, hn1, hn2]


end Go.Proofs.Ytkobjjadojpjfaa.Pure
