/- Proved here: the path that throws make; the conditions are a board's own bounds. -/
import Derived.Test.YtkobjjadojpjfaaPL3
import Derived.Test.YtkobjjadojpjfaaFGE
import Derived.Test.YtkobjjadojpjfaaHareThrows
namespace Go.Proofs.Ytkobjjadojpjfaa.Pr
open Go.RowKit Go.Proofs.YtkobjjadojpjfaaW.PrintWords Go.Proofs.YtkobjjadojpjfaaW.PrintLast Go.Proofs.YtkobjjadojpjfaaW.PrintMore
set_option linter.unusedVariables false
set_option linter.unusedSimpArgs false

def inB (b : Int) (x : Int) : Bool := decide (1 ≤ x ∧ x ≤ b)

theorem l1All_l0 (b : Int) (fs : List Int) (hl : fs.length ≤ 9223372036854775806) : ∀ (d i k : Nat), i + d = fs.length → d < k → spec_l1All.l0 k 1 b fs (fs.length : Int) (i : Int) = some ((fs.drop i).all (inB b))
  | 0, i, k, h1, h2 => by
    obtain ⟨k, rfl⟩ : ∃ m, k = m + 1 := ⟨k - 1, by omega⟩
    simp only [spec_l1All.l0]
    rw [if_neg (by omega), List.drop_of_length_le (by omega)]
    rfl
  | d + 1, i, k, h1, h2 => by
    obtain ⟨k, rfl⟩ : ∃ m, k = m + 1 := ⟨k - 1, by omega⟩
    have hi : i < fs.length := by omega
    simp only [spec_l1All.l0, l1In_some]
    rw [if_pos (nat_lt hi), if_pos (nat_nn i), if_pos (nat_lt hi), rd_at hi, w64_succ (by omega), l1All_l0 b fs hl d (i + 1) k (by omega) (by omega), List.drop_eq_getElem_cons hi, List.all_cons]
    simp only [Option.bind_some]
    show _ = some (decide _ && _)
    by_cases h : 1 ≤ fs[i] ∧ fs[i] ≤ b
    · rw [if_pos (decide_eq_true h), decide_eq_true h, Bool.true_and]
    · rw [if_neg (by rw [decide_eq_false h]; decide), decide_eq_false h, Bool.false_and]

theorem l1All_eq (b : Int) (fs : List Int) (hl : fs.length ≤ 9223372036854775806) (k : Nat) (hk : fs.length < k) : spec_l1All.f k fs 1 b = some (fs.all (inB b)) := by
  unfold spec_l1All.f
  have := l1All_l0 b fs hl fs.length 0 k (by omega) hk
  rw [List.drop_zero] at this
  exact this

def played (a b c : Int) (l : List S27) (s : Int) (fs : List Int) : Bool := good a b c l && sqr a l s && (decide (fs.length ≤ 200) && fs.all (inB b))

theorem played_len {a b c : Int} {l : List S27} {s : Int} {fs : List Int} (h : played a b c l s fs = true) : fs.length ≤ 200 := by
  unfold played at h
  simp only [Bool.and_eq_true, decide_eq_true_eq] at h
  exact h.2.1

theorem sqThrows_eq (a b c : Int) (l : List S27) (s : Int) (fs : List Int) (k : Nat) (hk : 210 ≤ k) : spec_sqThrows.f k a b c l s fs = some (played a b c l s fs) := by
  unfold spec_sqThrows.f played
  rw [sqAsked_eq a b c l s k (by omega)]
  simp only [Option.bind_some]
  cases h : (good a b c l && sqr a l s) with
  | false => rfl
  | true =>
    rw [if_pos rfl]
    by_cases h2 : fs.length ≤ 200
    · rw [if_pos (by omega), l1All_eq b fs (by omega) k (by omega), decide_eq_true h2]; simp
    · rw [if_neg (by omega), decide_eq_false h2]; simp

theorem areThrows_eq (a b c : Int) (l : List S27) (fs : List Int) : impl_Board_areThrows.f a b c l fs = some (decide (fs.length ≤ 200) && fs.all (inB b)) := by
  unfold impl_Board_areThrows.f
  by_cases h2 : fs.length ≤ 200
  · rw [if_pos (by omega), decide_eq_true h2, anyF_all (q := inB b) fs (fun x _ => by rw [within_some]; rfl)]
    simp
  · rw [if_neg (by omega), decide_eq_false h2]; rfl

def pathL (a c : Int) (l : List S27) : Int → List Int → List Int
  | _, [] => []
  | s, f :: fs => thr a c l s f :: pathL a c l (thr a c l s f) fs

theorem pathL_length (a c : Int) (l : List S27) : ∀ (fs : List Int) (s : Int), (pathL a c l s fs).length = fs.length
  | [], s => rfl
  | f :: fs, s => by simp [pathL, pathL_length a c l fs]

theorem path_l0 {a b c : Int} {l : List S27} (B : Board a b c l) (fs : List Int) (hfs : ∀ x ∈ fs, 1 ≤ x ∧ x ≤ b) (hl : fs.length ≤ 200) : ∀ (d i k : Nat) (s : Int) (out : List Int), i + d = fs.length → d + 25 < k → sqr a l s = true → out.length = i + 1 →
    impl_Board_path.l0 k s out fs (fs.length : Int) (i : Int) a b c l = some (out ++ pathL a c l s (fs.drop i))
  | 0, i, k, s, out, h1, h2, hs, h3 => by
    obtain ⟨k, rfl⟩ : ∃ m, k = m + 1 := ⟨k - 1, by omega⟩
    simp only [impl_Board_path.l0]
    rw [if_neg (by omega), List.drop_of_length_le (by omega)]
    simp [pathL]
  | d + 1, i, k, s, out, h1, h2, hs, h3 => by
    obtain ⟨k, rfl⟩ : ∃ m, k = m + 1 := ⟨k - 1, by omega⟩
    have hi : i < fs.length := by omega
    obtain ⟨s0, s1⟩ := sqr_le hs
    have hf := hfs fs[i] (List.getElem_mem hi)
    simp only [impl_Board_path.l0]
    rw [if_pos (nat_lt hi), if_pos (nat_nn i), if_pos (nat_lt hi), rd_at hi, throw_eq B s _ s0 s1 hf.1 hf.2 k (by omega)]
    simp only [Option.bind_some]
    rw [if_pos (by omega), w64_succ (by omega), path_l0 B fs hfs hl d (i + 1) k _ _ (by omega) (by omega) (B.thr_sqr s _ hs hf.1 hf.2) (by simp [h3]), List.drop_eq_getElem_cons hi]
    simp [pathL]

theorem play_l0 {a b c : Int} {l : List S27} (B : Board a b c l) (fs : List Int) (hfs : ∀ x ∈ fs, 1 ≤ x ∧ x ≤ b) (hl : fs.length ≤ 200) : ∀ (d i k : Nat) (s : Int) (out : List Int), i + d = fs.length → d + 25 < k → sqr a l s = true → out.length = i + 1 →
    spec_sqPlay.l0 k s out fs (fs.length : Int) (i : Int) a b c l = some (out ++ pathL a c l s (fs.drop i))
  | 0, i, k, s, out, h1, h2, hs, h3 => by
    obtain ⟨k, rfl⟩ : ∃ m, k = m + 1 := ⟨k - 1, by omega⟩
    simp only [spec_sqPlay.l0]
    rw [if_neg (by omega), List.drop_of_length_le (by omega)]
    simp [pathL]
  | d + 1, i, k, s, out, h1, h2, hs, h3 => by
    obtain ⟨k, rfl⟩ : ∃ m, k = m + 1 := ⟨k - 1, by omega⟩
    have hi : i < fs.length := by omega
    obtain ⟨s0, s1⟩ := sqr_le hs
    have hf := hfs fs[i] (List.getElem_mem hi)
    simp only [spec_sqPlay.l0]
    rw [if_pos (nat_lt hi), if_pos (nat_nn i), if_pos (nat_lt hi), rd_at hi, sqThrow_eq B s _ s0 s1 hf.1 hf.2 k (by omega)]
    simp only [Option.bind_some]
    rw [if_pos (by omega), w64_succ (by omega), play_l0 B fs hfs hl d (i + 1) k _ _ (by omega) (by omega) (B.thr_sqr s _ hs hf.1 hf.2) (by simp [h3]), List.drop_eq_getElem_cons hi]
    simp [pathL]

theorem played_parts {a b c : Int} {l : List S27} {s : Int} {fs : List Int} (h : played a b c l s fs = true) : good a b c l = true ∧ sqr a l s = true ∧ fs.length ≤ 200 ∧ ∀ x ∈ fs, 1 ≤ x ∧ x ≤ b := by
  unfold played at h
  simp only [Bool.and_eq_true, decide_eq_true_eq, List.all_eq_true] at h
  exact ⟨h.1.1, h.1.2, h.2.1, fun x hx => by have := h.2.2 x hx; unfold inB at this; simpa using this⟩

theorem sqPlay_eq {a b c : Int} {l : List S27} {s : Int} {fs : List Int} (h : played a b c l s fs = true) (k : Nat) (hk : 240 ≤ k) : spec_sqPlay.f k a b c l s fs = some (s :: pathL a c l s fs) := by
  obtain ⟨h1, h2, h3, h4⟩ := played_parts h
  unfold spec_sqPlay.f
  have := play_l0 (Board.of_good h1) fs h4 h3 fs.length 0 k s [s] (by omega) (by omega) h2 rfl
  rw [List.drop_zero] at this
  exact this

theorem PathOfThrows_eq (a b c : Int) (l : List S27) (s : Int) (fs : List Int) (k : Nat) (hk : 240 ≤ k) : impl_PathOfThrows.f k a b c l s fs = some (if played a b c l s fs then (s :: pathL a c l s fs, true) else ([], false)) := by
  unfold impl_PathOfThrows.f impl_Board_path.f
  rw [areSquares_eq a b c l _ k (by omega), one_square, areThrows_eq]
  simp only [Option.bind_some]
  by_cases h : played a b c l s fs = true
  · rw [if_pos h]
    obtain ⟨h1, h2, h3, h4⟩ := played_parts h
    have h' := h
    unfold played at h'
    rw [Bool.and_eq_true] at h'
    have := path_l0 (Board.of_good h1) fs h4 h3 fs.length 0 k s [s] (by omega) (by omega) h2 rfl
    rw [List.drop_zero, show ((0 : Nat) : Int) = 0 from rfl] at this
    rw [if_pos h'.1, if_pos h'.2, this]
    rfl
  · rw [if_neg h]
    by_cases g : (good a b c l && sqr a l s) = true
    · rw [if_pos g, if_neg (fun g2 => h (by unfold played; rw [g, g2]; rfl))]
    · rw [if_neg g]

end Go.Proofs.Ytkobjjadojpjfaa.Pr
