/- Proved here: the two texts of a board are one; the conditions are a board's own bounds. -/
import Derived.Test.YtnbleinhabllnaaDoorPL2
import Derived.Test.YtnbleinhabllnaaDoorFImplBoardText
import Derived.Test.YtnbleinhabllnaaDoorFSpecSqText
namespace Go.Proofs.YtnbleinhabllnaaDoor.Pr
open Go.RowKit Go.Proofs.YtnbleinhabllnaaDoorW.PrintWords Go.Proofs.YtnbleinhabllnaaDoorW.PrintLast Go.Proofs.YtnbleinhabllnaaDoorW.PrintMore
set_option linter.unusedVariables false
set_option linter.unusedSimpArgs false

/-! #### numerals -/
def tx (n : Int) : ByteArray := ⟨(Lib.itoa n).toArray⟩

theorem dec_lo {n : Nat} (h : n < 10) : Lib.decDigits n = [UInt8.ofNat (48 + n)] := by rw [Lib.decDigits, dif_pos h]
theorem dec_hi {n : Nat} (h : ¬ n < 10) : Lib.decDigits n = Lib.decDigits (n / 10) ++ [UInt8.ofNat (48 + n % 10)] := by rw [Lib.decDigits, dif_neg h]

theorem dec_len {n : Nat} (h : n < 1000) : (Lib.decDigits n).length ≤ 3 := by
  by_cases h1 : n < 10
  · rw [dec_lo h1]; simp
  · rw [dec_hi h1, List.length_append]
    by_cases h2 : n / 10 < 10
    · rw [dec_lo h2]; simp
    · rw [dec_hi h2, List.length_append, dec_lo (by omega)]
      simp

theorem tx_nat (n : Nat) : tx (n : Int) = ⟨(Lib.decDigits n).toArray⟩ := by
  unfold tx Lib.itoa
  rw [if_neg (by omega)]
  rfl

theorem tx_size {n : Int} (h0 : 0 ≤ n) (h1 : n ≤ 100) : (tx n).size ≤ 3 := by
  obtain ⟨m, rfl⟩ := Int.eq_ofNat_of_zero_le h0
  have e := tx_nat m
  have : (tx (m : Int)).size = (Lib.decDigits m).length := by rw [e]; simp [ByteArray.size]
  have h2 := dec_len (n := m) (by omega)
  show (tx (m : Int)).size ≤ 3
  omega

theorem itoa_tx {n : Int} (h0 : 0 ≤ n) (h1 : n ≤ 100) : strconv_Itoa_52.f n = some (tx n) := by
  unfold strconv_Itoa_52.f
  rw [if_pos (by omega)]
  rfl

theorem app_nums (a : ByteArray) (b : List UInt8) (l : List UInt8) (h : a = ⟨l.toArray⟩) : a ++ (⟨b.toArray⟩ : ByteArray) = ⟨(l ++ b).toArray⟩ := by
  subst h
  apply ByteArray.ext
  simp

theorem num_tx : ∀ (k n : Nat), n ≤ 100 → 4 ≤ k + (if n < 10 then 3 else if n < 100 then 2 else 1) → 1 ≤ k → spec_l1Num.f k (n : Int) = some (⟨(Lib.decDigits n).toArray⟩ : ByteArray)
  | 0, n, _, _, h => by omega
  | k + 1, n, h, hk, _ => by
    have e1 : wrap64 (48 + (Int.tmod (n : Int) 10)) % 256 = ((48 + n % 10 : Nat) : Int) := by
      rw [Int.tmod_eq_emod_of_nonneg (by omega), w64 _ (by omega) (by omega)]
      omega
    have e2 : wrap64 (Int.tdiv (n : Int) 10) = ((n / 10 : Nat) : Int) := by
      rw [Int.tdiv_eq_ediv_of_nonneg (by omega), w64 _ (by omega) (by omega)]
      omega
    unfold spec_l1Num.f
    by_cases h1 : n < 10
    · have e0 : wrap64 (48 + (n : Int)) % 256 = ((48 + n : Nat) : Int) := by
        clear e1 e2
        rw [w64 _ (by omega) (by omega)]
        omega
      rw [if_pos (by clear e0 e1 e2; omega), e0, dec_lo h1]
      rfl
    · have h2 : n / 10 < 100 := by clear e1 e2; omega
      have hk1 : 1 ≤ k := by clear e1 e2; revert hk; split <;> (try split) <;> omega
      have hkk : 4 ≤ k + (if n / 10 < 10 then 3 else if n / 10 < 100 then 2 else 1) := by
        clear e1 e2
        revert hk
        rw [if_neg h1]
        by_cases h3 : n < 100
        · rw [if_pos h3, if_pos (by omega)]; omega
        · rw [if_neg h3, if_neg (by omega), if_pos (by omega)]; omega
      rw [if_neg (by clear e1 e2; omega), e1, e2, num_tx k (n / 10) (by clear e1 e2; omega) hkk hk1]
      simp only [Option.bind_some]
      have hl : (Lib.decDigits (n / 10)).length ≤ 3 := dec_len (by clear e1 e2; omega)
      have hs : (⟨(Lib.decDigits (n / 10)).toArray⟩ : ByteArray).size = (Lib.decDigits (n / 10)).length := by simp [ByteArray.size]
      rw [if_pos (by rw [hs, strOfNums_size]; simp; clear e1 e2; omega), dec_hi h1]
      refine congrArg some ?_
      exact app_nums _ [UInt8.ofNat (48 + n % 10)] (Lib.decDigits (n / 10)) rfl

theorem num_eq {n : Int} (h0 : 0 ≤ n) (h1 : n ≤ 100) (k : Nat) (hk : 4 ≤ k) : spec_l1Num.f k n = some (tx n) := by
  obtain ⟨m, rfl⟩ := Int.eq_ofNat_of_zero_le h0
  rw [tx_nat]
  exact num_tx k m (by omega) (by omega) (by omega)

/-! #### the texts -/
def jt (p : S61) : ByteArray := (((⟨#[59]⟩ : ByteArray) ++ tx p.f0) ++ (⟨#[62]⟩ : ByteArray)) ++ tx p.f1

def okJ (a : Int) (l : List S61) : Prop := ∀ x ∈ l, (0 ≤ x.f0 ∧ x.f0 ≤ 100) ∧ (0 ≤ x.f1 ∧ x.f1 ≤ 100)

theorem one_size (b : UInt8) : (⟨#[b]⟩ : ByteArray).size = 1 := rfl

theorem text_l0 (l : List S61) (hl : l.length ≤ 20) (hok : okJ 0 l) : ∀ (d i k : Nat) (x : ByteArray), i + d = l.length → d + 5 < k → x.size + 20 * d ≤ 1000 →
    impl_boardText.l0 k x l (l.length : Int) (i : Int) = some ((l.drop i).foldl (fun acc p => acc ++ jt p) x) ∧ spec_sqText.l0 k x l (l.length : Int) (i : Int) = some ((l.drop i).foldl (fun acc p => acc ++ jt p) x)
  | 0, i, k, x, h1, h2, h3 => by
    obtain ⟨k, rfl⟩ : ∃ m, k = m + 1 := ⟨k - 1, by omega⟩
    rw [List.drop_of_length_le (by omega)]
    simp only [impl_boardText.l0, spec_sqText.l0]
    rw [if_neg (by omega), if_neg (by omega)]
    exact ⟨rfl, rfl⟩
  | d + 1, i, k, x, h1, h2, h3 => by
    obtain ⟨k, rfl⟩ : ∃ m, k = m + 1 := ⟨k - 1, by omega⟩
    have hi : i < l.length := by omega
    obtain ⟨⟨a0, a1⟩, b0, b1⟩ := hok l[i] (List.getElem_mem hi)
    have s0 := tx_size a0 a1
    have s1 := tx_size b0 b1
    have hj : (jt l[i]).size ≤ 8 := by
      unfold jt
      simp only [ByteArray.size_append, one_size]
      omega
    have ih := text_l0 l hl hok d (i + 1) k (x ++ jt l[i]) (by omega) (by omega) (by rw [ByteArray.size_append]; omega)
    rw [List.drop_eq_getElem_cons hi, List.foldl_cons]
    simp only [impl_boardText.l0, spec_sqText.l0]
    rw [if_pos (by omega), if_pos (by omega), if_pos (by omega), if_pos (by omega), if_pos (by omega), if_pos (by omega), rdJ_at hi, itoa_tx a0 a1, itoa_tx b0 b1, num_eq a0 a1 k (by omega), num_eq b0 b1 k (by omega)]
    simp only [Option.bind_some, ByteArray.size_append, one_size]
    rw [if_pos (by omega), if_pos (by omega), if_pos (by omega), if_pos (by omega), if_pos (by omega), if_pos (by omega), if_pos (by omega), if_pos (by omega), w64_succ (by omega)]
    exact ih

theorem text_eq {a b c : Int} {l : List S61} (h : good a b c l = true) : ∃ r : ByteArray, ∀ k, 100 ≤ k → impl_boardText.f k a b c l = some r ∧ spec_sqText.f k a b c l = some r := by
  have B := Board.of_good h
  have hl := B.len
  have := B.a1; have := B.a2; have := B.b1; have := B.b2; have := B.c1; have := B.c2
  have hok : okJ 0 l := fun x hx => by
    have := B.jump x hx
    omega
  have s0 := tx_size (n := a) (by omega) (by omega)
  have s1 := tx_size (n := b) (by omega) (by omega)
  have s2 := tx_size (n := c) (by omega) (by omega)
  refine ⟨l.foldl (fun acc p => acc ++ jt p) ((((tx a ++ (⟨#[100]⟩ : ByteArray)) ++ tx b) ++ (⟨#[47]⟩ : ByteArray)) ++ tx c), fun k hk => ?_⟩
  have ht := text_l0 l hl hok l.length 0 k ((((tx a ++ (⟨#[100]⟩ : ByteArray)) ++ tx b) ++ (⟨#[47]⟩ : ByteArray)) ++ tx c) (by omega) (by omega) (by simp only [ByteArray.size_append, one_size]; omega)
  rw [List.drop_zero] at ht
  unfold impl_boardText.f spec_sqText.f
  rw [itoa_tx (n := a) (by omega) (by omega), itoa_tx (n := b) (by omega) (by omega), itoa_tx (n := c) (by omega) (by omega), num_eq (n := a) (by omega) (by omega) k (by omega), num_eq (n := b) (by omega) (by omega) k (by omega), num_eq (n := c) (by omega) (by omega) k (by omega)]
  simp only [Option.bind_some, ByteArray.size_append, one_size]
  rw [if_pos (by omega), if_pos (by omega), if_pos (by omega), if_pos (by omega), if_pos (by omega), if_pos (by omega), if_pos (by omega), if_pos (by omega)]
  exact ht

end Go.Proofs.YtnbleinhabllnaaDoor.Pr
