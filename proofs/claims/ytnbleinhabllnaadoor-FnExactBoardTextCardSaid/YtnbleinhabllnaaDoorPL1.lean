/- Proved here: what the statements' own helpers (sizes, copies, comparisons, marks) answer; the conditions are lengths. -/
import Derived.Test.YtnbleinhabllnaaDoorFGA
namespace Go.Proofs.YtnbleinhabllnaaDoor.Pr
open Go.RowKit Go.Proofs.YtnbleinhabllnaaDoorW.PrintWords Go.Proofs.YtnbleinhabllnaaDoorW.PrintLast Go.Proofs.YtnbleinhabllnaaDoorW.PrintMore
set_option linter.unusedVariables false
set_option linter.unusedSimpArgs false

theorem bind_weak {α β : Type} {x y : Option α} {f : α → Option β} (h : x = y) : x.bind f = y.bind f := by rw [h]

theorem w64 (x : Int) (h1 : -9223372036854775808 ≤ x) (h2 : x ≤ 9223372036854775807) : wrap64 x = x := by unfold wrap64; omega

theorem wf_lo {x : Int} (h : (Lit.int .i64 x).wf = true) : -9223372036854775808 ≤ x ∧ x ≤ 9223372036854775807 := by
  have h2 : IntKind.i64.min ≤ x ∧ x ≤ IntKind.i64.max := by simpa [Lit.wf] using h
  exact h2

def conv (x : S81) : S61 := ⟨x.f0, x.f1⟩

theorem ext_J (x y : S61) (h0 : x.f0 = y.f0) (h1 : x.f1 = y.f1) : x = y := by
  cases x; cases y; simp_all

theorem set_take {α : Type} (out : List α) (i : Nat) (c : α) (h : i < out.length) : (out.set i c).take (i + 1) = out.take i ++ [c] := by
  rw [List.take_succ_eq_append_getElem (by simpa using h), List.take_set_of_le (Nat.le_refl i)]
  simp

theorem rd_at {l : List Int} {i : Nat} (h : i < l.length) : rd l (i : Int) = l[i] := by
  simp [rd, List.getD, h]

theorem rdJ_at {l : List S61} {i : Nat} (h : i < l.length) : rd_T61 l (i : Int) = l[i] := by
  simp [rd_T61, List.getD, h]

theorem rdL_at {l : List S81} {i : Nat} (h : i < l.length) : rd_T81 l (i : Int) = l[i] := by
  simp [rd_T81, List.getD, h]

theorem nat_lt {i n : Nat} (h : i < n) : (i : Int) < (n : Int) := by omega
theorem nat_nlt {i n : Nat} (h : n ≤ i) : ¬ (i : Int) < (n : Int) := by omega
theorem nat_nn (i : Nat) : (0 : Int) ≤ (i : Int) := by omega
theorem w64_succ {i : Nat} (h : i < 9223372036854775807) : wrap64 ((i : Int) + 1) = ((i + 1 : Nat) : Int) := by
  rw [w64 _ (by omega) (by omega)]; rfl

/-! #### sizes -/
theorem szBoard_eq (a b c : Int) (l : List S81) (m : Int) (h0 : 0 ≤ m) (h1 : m ≤ 1048576) (hl : l.length ≤ 9223372036854775807) :
    laws_szBoard.f a b c l m = some (if (l.length : Int) ≤ m then m - l.length else -1) := by
  unfold laws_szBoard.f laws_szJumpS.f
  rw [w64 (m - l.length) (by omega) (by omega)]
  by_cases h : (l.length : Int) ≤ m
  · rw [if_neg (by omega), if_pos h]; simp only [Option.bind_some]; rw [if_neg (by omega)]
  · rw [if_pos (by omega), if_neg h]; simp

/-! #### copies -/
theorem toJumpS_l0 (x : List S81) (hx : x.length ≤ 1048576) : ∀ (d i k : Nat) (out : List S61), i + d = x.length → out.length = x.length → d < k →
    laws_toJumpS.l0 k x out (i : Int) = some (out.take i ++ (x.drop i).map conv)
  | 0, i, k, out, h1, h2, h3 => by
    obtain ⟨k, rfl⟩ : ∃ m, k = m + 1 := ⟨k - 1, by omega⟩
    simp only [laws_toJumpS.l0]
    rw [if_neg (nat_nlt (by omega)), List.drop_of_length_le (by omega), List.take_of_length_le (by omega)]
    simp
  | d + 1, i, k, out, h1, h2, h3 => by
    obtain ⟨k, rfl⟩ : ∃ m, k = m + 1 := ⟨k - 1, by omega⟩
    have hi : i < x.length := by omega
    simp only [laws_toJumpS.l0, laws_toJump.f]
    rw [if_pos (nat_lt hi), if_pos (nat_nn i)]
    simp only [Option.bind_some]
    rw [if_pos (nat_lt (by omega)), w64_succ (by omega), toJumpS_l0 x hx d (i + 1) k _ (by omega) (by simpa using h2) (by omega), Int.toNat_natCast, rdL_at hi, set_take _ _ _ (by omega), List.drop_eq_getElem_cons hi, List.map_cons, List.append_assoc]
    rfl

theorem toBoard_eq (a b c : Int) (l : List S81) (hl : l.length ≤ 1048576) (k : Nat) (hk : l.length < k) :
    laws_toBoard.f k a b c l = some (a, b, c, l.map conv) := by
  unfold laws_toBoard.f laws_toJumpS.f
  rw [if_pos (nat_nn _), if_pos (by rw [Int.toNat_natCast]; omega)]
  have := toJumpS_l0 l hl l.length 0 k (List.replicate ((l.length : Int) : Int).toNat z61) (by omega) (by simp) hk
  rw [show ((0 : Nat) : Int) = 0 from rfl] at this
  rw [this]
  simp

/-! #### comparisons -/
theorem eqJumpS_l0 (x y : List S61) (hx : x.length ≤ 9223372036854775806) (hxy : x.length = y.length) : ∀ (d i k : Nat), i + d = x.length → d < k →
    ∃ r, laws_eqJumpS.l0 k x y (i : Int) = some r ∧ (r = true ↔ x.drop i = y.drop i)
  | 0, i, k, h1, h3 => by
    obtain ⟨k, rfl⟩ : ∃ m, k = m + 1 := ⟨k - 1, by omega⟩
    simp only [laws_eqJumpS.l0]
    rw [if_neg (nat_nlt (by omega)), List.drop_of_length_le (by omega), List.drop_of_length_le (by omega)]
    exact ⟨_, rfl, by simp⟩
  | d + 1, i, k, h1, h3 => by
    obtain ⟨k, rfl⟩ : ∃ m, k = m + 1 := ⟨k - 1, by omega⟩
    have hi : i < x.length := by omega
    have hj : i < y.length := by omega
    simp only [laws_eqJumpS.l0, laws_eqJump.f]
    rw [if_pos (nat_lt hi), if_pos (nat_nn i), if_pos (nat_lt hj), rdJ_at hi, rdJ_at hj, w64_succ (by omega), List.drop_eq_getElem_cons hi, List.drop_eq_getElem_cons hj]
    obtain ⟨r, hr, hr2⟩ := eqJumpS_l0 x y hx hxy d (i + 1) k (by omega) (by omega)
    rw [hr]
    by_cases h0 : x[i].f0 = y[i].f0
    · by_cases h1' : x[i].f1 = y[i].f1
      · rw [if_pos h0, if_pos h1']
        exact ⟨r, by simp, by rw [hr2, List.cons.injEq]; exact ⟨fun h => ⟨ext_J _ _ h0 h1', h⟩, fun h => h.2⟩⟩
      · rw [if_pos h0, if_neg h1']
        exact ⟨false, by simp, by rw [List.cons.injEq]; exact ⟨fun h => by simp at h, fun h => absurd (by rw [h.1]) h1'⟩⟩
    · rw [if_neg h0]
      exact ⟨false, by simp, by rw [List.cons.injEq]; exact ⟨fun h => by simp at h, fun h => absurd (by rw [h.1]) h0⟩⟩

theorem eqBoard_eq (a b c : Int) (l : List S61) (a' b' c' : Int) (l' : List S61) (hl : l.length ≤ 9223372036854775806) (k : Nat) (hk : l.length < k) :
    ∃ r, laws_eqBoard.f k a b c l a' b' c' l' = some r ∧ (r = true ↔ a = a' ∧ b = b' ∧ c = c' ∧ l = l') := by
  unfold laws_eqBoard.f laws_eqJumpS.f
  by_cases h1 : a = a'
  · by_cases h2 : b = b'
    · by_cases h3 : c = c'
      · rw [if_pos h1, if_pos h2, if_pos h3]
        by_cases h : l.length = l'.length
        · rw [if_pos (by omega)]
          obtain ⟨r, hr, hr2⟩ := eqJumpS_l0 l l' hl h l.length 0 k (by omega) hk
          rw [show ((0 : Nat) : Int) = 0 from rfl] at hr
          rw [hr]
          cases r
          · exact ⟨false, by simp, by simp at hr2; simp [hr2]⟩
          · exact ⟨true, by simp, by simp at hr2; simp [hr2, h1, h2, h3]⟩
        · rw [if_neg (by omega)]
          exact ⟨false, by simp, by simp; intro _ _ _ e; exact h (by rw [e])⟩
      · rw [if_pos h1, if_pos h2, if_neg h3]; exact ⟨false, rfl, by simp [h3]⟩
    · rw [if_pos h1, if_neg h2]; exact ⟨false, rfl, by simp [h2]⟩
  · rw [if_neg h1]; exact ⟨false, rfl, by simp [h1]⟩

theorem eqBoard_same (a b c : Int) (l : List S61) (hl : l.length ≤ 9223372036854775806) (k : Nat) (hk : l.length < k) : laws_eqBoard.f k a b c l a b c l = some true := by
  obtain ⟨r, hr, h⟩ := eqBoard_eq a b c l a b c l hl k hk
  rw [hr, h.mpr ⟨rfl, rfl, rfl, rfl⟩]

end Go.Proofs.YtnbleinhabllnaaDoor.Pr
