-- A text of the machine side, written by wip/gen.py of this repo out of the translation. Not trusted: Lean checks it.
import Derived.Test.YtnbleinhabllnaaDoorF0
import Derived.Test.YtnbleinhabllnaaDoorFImplIsBoard
import Derived.Test.YtnbleinhabllnaaDoorHItoa
namespace Go.Proofs.YtnbleinhabllnaaDoor.Pr
open Go.RowKit Go.Proofs.YtnbleinhabllnaaDoorW.PrintWords Go.Proofs.YtnbleinhabllnaaDoorW.PrintLast Go.Proofs.YtnbleinhabllnaaDoorW.PrintMore
attribute [local go_sem] max2_int min2_int max_two min_two max_three min_three max_four min_four   -- for this text's walks alone
set_option linter.unusedVariables false
set_option linter.unusedSimpArgs false

/-! ### impl_boardText: function 31 -/
def impl_boardText.l0 : Nat → ByteArray → List (S61) → Int → Int → Option (ByteArray)
 | 0, _, _, _, _ => none
 | k + 1, x3, x20, x21, x22 => if x22 < x21 then (if 0 ≤ x22 then (if x22 < (x20.length : Int) then ((strconv_Itoa_52.f ((rd_T61 x20 x22).f0)).bind fun tBJ => (if 1 + tBJ.size ≤ 9223372036854775807 then (if ((⟨#[59]⟩ : ByteArray) ++ tBJ).size + 1 ≤ 9223372036854775807 then ((strconv_Itoa_52.f ((rd_T61 x20 x22).f1)).bind fun tBK => (if (((⟨#[59]⟩ : ByteArray) ++ tBJ) ++ (⟨#[62]⟩ : ByteArray)).size + tBK.size ≤ 9223372036854775807 then (if x3.size + ((((⟨#[59]⟩ : ByteArray) ++ tBJ) ++ (⟨#[62]⟩ : ByteArray)) ++ tBK).size ≤ 9223372036854775807 then (impl_boardText.l0 k (x3 ++ ((((⟨#[59]⟩ : ByteArray) ++ tBJ) ++ (⟨#[62]⟩ : ByteArray)) ++ tBK)) x20 x21 (wrap64 (x22 + 1))) else (none)) else (none))) else (none)) else (none))) else (none)) else (none)) else (some x3)
def impl_boardText.f (k : Nat) (a0_0 : Int) (a0_1 : Int) (a0_2 : Int) (l0_3 : List (S61)) : Option (ByteArray) := (strconv_Itoa_52.f a0_0).bind fun tBE => (if tBE.size + 1 ≤ 9223372036854775807 then ((strconv_Itoa_52.f a0_1).bind fun tBF => (if (tBE ++ (⟨#[100]⟩ : ByteArray)).size + tBF.size ≤ 9223372036854775807 then (if ((tBE ++ (⟨#[100]⟩ : ByteArray)) ++ tBF).size + 1 ≤ 9223372036854775807 then ((strconv_Itoa_52.f a0_2).bind fun tBG => (if (((tBE ++ (⟨#[100]⟩ : ByteArray)) ++ tBF) ++ (⟨#[47]⟩ : ByteArray)).size + tBG.size ≤ 9223372036854775807 then (impl_boardText.l0 k ((((tBE ++ (⟨#[100]⟩ : ByteArray)) ++ tBF) ++ (⟨#[47]⟩ : ByteArray)) ++ tBG) l0_3 (l0_3.length : Int) 0) else (none))) else (none)) else (none))) else (none))
def impl_boardText.T1 : Bool × List (List Nat × List Nat) := (true, [([], []), ([0], [0]), ([1], [1]), ([2], [2]), ([], []), ([4], [4]), ([5, 2], [5]), ([3, 6], [3, 6]), ([7], [7]), ([], []), ([9], [9]), ([10, 6], [10]), ([8, 11], [8, 11]), ([12, 11, 0, 1, 2, 3, 4, 5, 6, 7, 8, 9, 10, 11, 12], [12])])
def impl_boardText.B1 : List Nat := [0, 1, 3, 7, 0, 16, 55, 127, 255, 0, 512, 1655, 4095, 8191]
theorem impl_boardText.tab1 : rtab .any (opsOf Tryd.f31 1) = impl_boardText.T1 := by kernel_rfl
theorem impl_boardText.bits1 : waitsOk impl_boardText.T1.2 impl_boardText.B1 = true := by kernel_rfl
def impl_boardText.T5 : Bool × List (List Nat × List Nat) := (true, [([], []), ([], []), ([1], [1]), ([2], [2]), ([3], [3]), ([4], [4]), ([], []), ([6], [6]), ([7, 3], [7]), ([5, 8], [5, 8]), ([0, 9], [0, 9]), ([10, 8, 0, 1, 2, 3, 4, 5, 6, 7, 8, 9, 10], [0, 10])])
def impl_boardText.B5 : List Nat := [0, 0, 2, 6, 14, 30, 0, 64, 206, 510, 1023, 2047]
theorem impl_boardText.tab5 : rtab .any (opsOf Tryd.f31 5) = impl_boardText.T5 := by kernel_rfl
theorem impl_boardText.bits5 : waitsOk impl_boardText.T5.2 impl_boardText.B5 = true := by kernel_rfl
set_option maxHeartbeats 8000000 in
set_option maxRecDepth 100000 in
theorem impl_boardText.calls (k : Nat) (a0_0 : Int) (a0_1 : Int) (a0_2 : Int) (A0_3 : Option Addr) (c0_3 : Nat) (l0_3 : List (S61)) (r : ByteArray) (w : World) (hr0_3 : Kd.C k61 w A0_3 l0_3.length l0_3) (hc0_3 : l0_3.length ≤ c0_3) (h : impl_boardText.f k a0_0 a0_1 a0_2 l0_3 = some r) (ht : TabW w) :
  Calls Tryd.prog 31 #[.agg #[.int .i64 a0_0, .int .i64 a0_1, .int .i64 a0_2, .slice A0_3 l0_3.length c0_3]] w fun e w' => e = .returned (.string r) ∧ Below w.heap.size w w' := by
 have HT := Am ht
 clear ht
 have hu24 := Tryd.underlying24
 have hu61 := Tryd.underlying61
 have HR0_3 := Am hr0_3
 have HC0_3 := Am hc0_3
 clear hr0_3 hc0_3
 have HB := Am (Below.refl w.heap.size w)
 have H : ((strconv_Itoa_52.f a0_0).bind fun tBE => (if tBE.size + 1 ≤ 9223372036854775807 then ((strconv_Itoa_52.f a0_1).bind fun tBF => (if (tBE ++ (⟨#[100]⟩ : ByteArray)).size + tBF.size ≤ 9223372036854775807 then (if ((tBE ++ (⟨#[100]⟩ : ByteArray)) ++ tBF).size + 1 ≤ 9223372036854775807 then ((strconv_Itoa_52.f a0_2).bind fun tBG => (if (((tBE ++ (⟨#[100]⟩ : ByteArray)) ++ tBF) ++ (⟨#[47]⟩ : ByteArray)).size + tBG.size ≤ 9223372036854775807 then (impl_boardText.l0 k ((((tBE ++ (⟨#[100]⟩ : ByteArray)) ++ tBF) ++ (⟨#[47]⟩ : ByteArray)) ++ tBG) l0_3 (l0_3.length : Int) 0) else (none))) else (none)) else (none))) else (none))) = some r := h
 clear h
 replace H := Option.bind_eq_some_iff.mp H
 obtain ⟨tBE, A20, H⟩ := H
 replace H : (if tBE.size + 1 ≤ 9223372036854775807 then ((strconv_Itoa_52.f a0_1).bind fun tBF => (if (tBE ++ (⟨#[100]⟩ : ByteArray)).size + tBF.size ≤ 9223372036854775807 then (if ((tBE ++ (⟨#[100]⟩ : ByteArray)) ++ tBF).size + 1 ≤ 9223372036854775807 then ((strconv_Itoa_52.f a0_2).bind fun tBG => (if (((tBE ++ (⟨#[100]⟩ : ByteArray)) ++ tBF) ++ (⟨#[47]⟩ : ByteArray)).size + tBG.size ≤ 9223372036854775807 then (impl_boardText.l0 k ((((tBE ++ (⟨#[100]⟩ : ByteArray)) ++ tBF) ++ (⟨#[47]⟩ : ByteArray)) ++ tBG) l0_3 (l0_3.length : Int) 0) else (none))) else (none)) else (none))) else (none)) = some r := H
 have A2 := Am A20
 clear A20
 by_cases c3 : tBE.size + 1 ≤ 9223372036854775807
 ·rw [if_pos c3] at H
  have c3b0 := eq_true c3
  have c3b1 : decide (tBE.size + 1 ≤ 9223372036854775807) = true := decide_eq_true c3
  try have c3b2 : (9223372036854775807 < tBE.size + 1) = False := eq_false (Nat.not_lt.2 c3)
  try have c3b3 : (9223372036854775807 < tBE.size + 1) = False := by (have h_ := c3b2; simp only [ByteArray.size_append] at h_; exact h_)
  replace H := Option.bind_eq_some_iff.mp H
  obtain ⟨tBF, A40, H⟩ := H
  replace H : (if (tBE ++ (⟨#[100]⟩ : ByteArray)).size + tBF.size ≤ 9223372036854775807 then (if ((tBE ++ (⟨#[100]⟩ : ByteArray)) ++ tBF).size + 1 ≤ 9223372036854775807 then ((strconv_Itoa_52.f a0_2).bind fun tBG => (if (((tBE ++ (⟨#[100]⟩ : ByteArray)) ++ tBF) ++ (⟨#[47]⟩ : ByteArray)).size + tBG.size ≤ 9223372036854775807 then (impl_boardText.l0 k ((((tBE ++ (⟨#[100]⟩ : ByteArray)) ++ tBF) ++ (⟨#[47]⟩ : ByteArray)) ++ tBG) l0_3 (l0_3.length : Int) 0) else (none))) else (none)) else (none)) = some r := H
  have A4 := Am A40
  clear A40
  by_cases c5 : (tBE ++ (⟨#[100]⟩ : ByteArray)).size + tBF.size ≤ 9223372036854775807
  ·rw [if_pos c5] at H
   have c5b0 := eq_true c5
   have c5b1 : decide ((tBE ++ (⟨#[100]⟩ : ByteArray)).size + tBF.size ≤ 9223372036854775807) = true := decide_eq_true c5
   try have c5b2 : (9223372036854775807 < (tBE ++ (⟨#[100]⟩ : ByteArray)).size + tBF.size) = False := eq_false (Nat.not_lt.2 c5)
   try have c5b3 : (9223372036854775807 < tBE.size + 1 + tBF.size) = False := by (have h_ := c5b2; simp only [ByteArray.size_append] at h_; exact h_)
   by_cases c6 : ((tBE ++ (⟨#[100]⟩ : ByteArray)) ++ tBF).size + 1 ≤ 9223372036854775807
   ·rw [if_pos c6] at H
    have c6b0 := eq_true c6
    have c6b1 : decide (((tBE ++ (⟨#[100]⟩ : ByteArray)) ++ tBF).size + 1 ≤ 9223372036854775807) = true := decide_eq_true c6
    try have c6b2 : (9223372036854775807 < ((tBE ++ (⟨#[100]⟩ : ByteArray)) ++ tBF).size + 1) = False := eq_false (Nat.not_lt.2 c6)
    try have c6b3 : (9223372036854775807 < tBE.size + 1 + tBF.size + 1) = False := by (have h_ := c6b2; simp only [ByteArray.size_append] at h_; exact h_)
    replace H := Option.bind_eq_some_iff.mp H
    obtain ⟨tBG, A70, H⟩ := H
    replace H : (if (((tBE ++ (⟨#[100]⟩ : ByteArray)) ++ tBF) ++ (⟨#[47]⟩ : ByteArray)).size + tBG.size ≤ 9223372036854775807 then (impl_boardText.l0 k ((((tBE ++ (⟨#[100]⟩ : ByteArray)) ++ tBF) ++ (⟨#[47]⟩ : ByteArray)) ++ tBG) l0_3 (l0_3.length : Int) 0) else (none)) = some r := H
    have A7 := Am A70
    clear A70
    by_cases c8 : (((tBE ++ (⟨#[100]⟩ : ByteArray)) ++ tBF) ++ (⟨#[47]⟩ : ByteArray)).size + tBG.size ≤ 9223372036854775807
    ·rw [if_pos c8] at H
     have c8b0 := eq_true c8
     have c8b1 : decide ((((tBE ++ (⟨#[100]⟩ : ByteArray)) ++ tBF) ++ (⟨#[47]⟩ : ByteArray)).size + tBG.size ≤ 9223372036854775807) = true := decide_eq_true c8
     try have c8b2 : (9223372036854775807 < (((tBE ++ (⟨#[100]⟩ : ByteArray)) ++ tBF) ++ (⟨#[47]⟩ : ByteArray)).size + tBG.size) = False := eq_false (Nat.not_lt.2 c8)
     try have c8b3 : (9223372036854775807 < tBE.size + 1 + tBF.size + 1 + tBG.size) = False := by (have h_ := c8b2; simp only [ByteArray.size_append] at h_; exact h_)
     have H' := Am H
     clear H
     go_enter Tryd.func31, Tryd.ntmps31
     try go_wp2_with (first | ((with_reducible refine gate_dst (N := 1) rfl ?_); refine box_event (by rfl) (N := 1) (by rfl) (cs := #[.int .i64 a0_0, .int .i64 a0_1, .int .i64 a0_2, .slice A0_3 l0_3.length c0_3]) (t := 24) hrS ?_; intro gbBD hg w9 hbox hb; have n0_ := Am (below_step belS hb); have n1_ := Am (hbox); have n2_ := Am (geS hg : w.heap.size ≤ gbBD); have n3_ := n2_; clear HB; revert n0_ n1_ n2_ n3_; intro HB BKBD GWBD GEBD; clear hb hbox hg))
     have n0_ := Am (blk_drew BKBD.out)
     have n1_ := Am (below_drew1 HB.out)
     clear BKBD
     clear HB
     have BKBD := n0_
     have HB := n1_
     clear n0_ n1_
     refine start_ (n := 14) (S := fun w' => w'.cell? ⟨gbBD, 0, none⟩ = some (.int .i64 a0_0) ∧ w'.cell? ⟨gbBD, 1, none⟩ = some (.int .i64 a0_1) ∧ w'.cell? ⟨gbBD, 2, none⟩ = some (.int .i64 a0_2) ∧ w'.cell? ⟨gbBD, 3, none⟩ = some (.slice A0_3 l0_3.length c0_3)) (ds := []) #[false, false, false, false, false, false, false, false, false, false, false, false, false, false] (by kernel_rfl) rfl rfl ⟨(blk_cell BKBD.out 0).trans rfl, (blk_cell BKBD.out 1).trans rfl, (blk_cell BKBD.out 2).trans rfl, (blk_cell BKBD.out 3).trans rfl⟩ (fun hHeld => ?_); refine with_tabW impl_boardText.tab1 impl_boardText.bits1 (fun HT_ HW_ => ?_)
     generalize w9.drew = w10 at BKBD HB hHeld ⊢
     refine puS 0 6 ?_
     refine puS 4 10 ?_
     refine puS 9 15 ?_
     refine tkS 1 7 ?_
     refine tkS 5 11 ?_
     refine tkS 10 16 ?_
     refine one_ (i := 2) (N := some 8) #[true, true, true, false, true, true, false, false, false, true, true, false, false, false] rfl rfl (one_of HT_.out (by kernel_rfl)) (by decide) (fun K hK => ?_)
     refine goes_ Tryd.func52 (by kernel_rfl) rfl #[.int .i64 a0_0] (by rfl) rfl rfl argS ?_
     with_reducible refine (strconv_Itoa_52.calls a0_0 tBE _ A2.out (tab_up HT.out belS)).mono ?_
     rintro e w11 ⟨rfl, hb⟩
     refine ⟨_, rfl, ?_⟩
     have n0_ := Am (blk_below (blk_up BKBD.out) hb)
     have n1_ := Am (below_step belS hb)
     clear BKBD
     clear HB
     have BKBD := n0_
     have HB := n1_
     clear n0_ n1_
     (try clear hb)
     (try clear hb2)
     (try clear hk)
     (try clear hi)
     refine hK.out _ _ ⟨(blk_cell BKBD.out 0).trans rfl, (blk_cell BKBD.out 1).trans rfl, (blk_cell BKBD.out 2).trans rfl, (blk_cell BKBD.out 3).trans rfl⟩ (fun hHeld => ?_)
     clear hK K
     refine norm_ (a' := ?_) ?_ ?_
     rotate_left
     ·show Act.put _ (some 8) _ = _
      simp only [Act.put, sA_, sB_, sC_, i64_w, i32_w]
      rfl
     refine puS 3 9 ?_
     refine one_ (i := 6) (N := some 12) #[true, true, true, true, true, true, true, false, false, true, true, false, false, false] rfl rfl (one_of HT_.out (by kernel_rfl)) (by decide) (fun K hK => ?_)
     refine goes_ Tryd.func52 (by kernel_rfl) rfl #[.int .i64 a0_1] (by rfl) rfl rfl argS ?_
     with_reducible refine (strconv_Itoa_52.calls a0_1 tBF _ A4.out (tab_up HT.out belS)).mono ?_
     rintro e w12 ⟨rfl, hb⟩
     refine ⟨_, rfl, ?_⟩
     have n0_ := Am (blk_below (blk_up BKBD.out) hb)
     have n1_ := Am (below_step belS hb)
     clear BKBD
     clear HB
     have BKBD := n0_
     have HB := n1_
     clear n0_ n1_
     (try clear hb)
     (try clear hb2)
     (try clear hk)
     (try clear hi)
     refine hK.out _ _ ⟨(blk_cell BKBD.out 0).trans rfl, (blk_cell BKBD.out 1).trans rfl, (blk_cell BKBD.out 2).trans rfl, (blk_cell BKBD.out 3).trans rfl⟩ (fun hHeld => ?_)
     clear hK K
     refine norm_ (a' := ?_) ?_ ?_
     rotate_left
     ·show Act.put _ (some 12) _ = _
      simp only [Act.put, sA_, sB_, sC_, i64_w, i32_w]
      rfl
     refine puS 7 13 ?_
     refine puS 8 14 ?_
     refine one_ (i := 11) (N := some 17) #[true, true, true, true, true, true, true, true, true, true, true, true, false, false] rfl rfl (one_of HT_.out (by kernel_rfl)) (by decide) (fun K hK => ?_)
     refine goes_ Tryd.func52 (by kernel_rfl) rfl #[.int .i64 a0_2] (by rfl) rfl rfl argS ?_
     with_reducible refine (strconv_Itoa_52.calls a0_2 tBG _ A7.out (tab_up HT.out belS)).mono ?_
     rintro e w13 ⟨rfl, hb⟩
     refine ⟨_, rfl, ?_⟩
     have n0_ := Am (blk_below (blk_up BKBD.out) hb)
     have n1_ := Am (below_step belS hb)
     clear BKBD
     clear HB
     have BKBD := n0_
     have HB := n1_
     clear n0_ n1_
     (try clear hb)
     (try clear hb2)
     (try clear hk)
     (try clear hi)
     refine hK.out _ _ ⟨(blk_cell BKBD.out 0).trans rfl, (blk_cell BKBD.out 1).trans rfl, (blk_cell BKBD.out 2).trans rfl, (blk_cell BKBD.out 3).trans rfl⟩ (fun hHeld => ?_)
     clear hK K
     refine norm_ (a' := ?_) ?_ ?_
     rotate_left
     ·show Act.put _ (some 17) _ = _
      simp only [Act.put, sA_, sB_, sC_, i64_w, i32_w]
      rfl
     refine puS 12 18 ?_
     refine puS 13 3 ?_
     refine done_ (done_of HT_.out (by kernel_rfl)) ?_
     obtain ⟨hcz14_0, hcz14_1, hcz14_2, hcz14_3, hfz14_0, hfz14_1, hfz14_2, hfz14_3⟩ := blk4 BKBD.out
     try go_wp2
     go_loopg [3, 22] k (fun kq v3 v22 w' => ∃ (x3_1 : ByteArray) (x22_1 : Int), v3 = .string x3_1 ∧ v22 = .int .i64 x22_1 ∧ Aside0 (impl_boardText.l0 kq x3_1 l0_3 (l0_3.length : Int) x22_1 = some r) ∧ Aside0 (kq ≤ k) ∧ Aside0 (w'.heap[gbBD]? = some (.cells #[.int .i64 a0_0, .int .i64 a0_1, .int .i64 a0_2, (.slice A0_3 l0_3.length c0_3)] 24 (0, 0))) ∧ Aside0 (Below w.heap.size w w'))
     case atStart => exact ⟨((((tBE ++ (⟨#[100]⟩ : ByteArray)) ++ tBF) ++ (⟨#[47]⟩ : ByteArray)) ++ tBG), (0), rfS, rfS, H', ⟨Nat.le_refl _⟩, ⟨by first | exact blk_up BKBD.out | exact BKBD.out⟩, ⟨by exact belS⟩⟩
     case round =>
      clear H'
      try clear c3
      try clear c3b0
      try clear c3b1
      try clear c3b2
      try clear c5
      try clear c5b0
      try clear c5b1
      try clear c5b2
      try clear c6
      try clear c6b0
      try clear c6b1
      try clear c6b2
      try clear c8
      try clear c8b0
      try clear c8b1
      try clear c8b2
      try clear hcz14_0 hcz14_1 hcz14_2 hcz14_3
      try clear hfz14_0 hfz14_1 hfz14_2 hfz14_3
      obtain ⟨x3_1, x22_1, rfl, rfl, HA, HK1, BKBD, HB⟩ := hrel
      cases gk with
      | zero => exact absurd HA.out (by simp [impl_boardText.l0])
      | succ k1 =>
       have H := HA.out
       clear HA
       simp only [impl_boardText.l0] at H
       by_cases c15 : x22_1 < (l0_3.length : Int)
       ·rw [if_pos c15] at H
        have c15b0 : decide (x22_1 < (l0_3.length : Int)) = true := decide_eq_true c15
        clear c15
        by_cases c16 : 0 ≤ x22_1
        ·rw [if_pos c16] at H
         have c16b0 : decide (0 ≤ x22_1) = true := decide_eq_true c16
         clear c16
         by_cases c17 : x22_1 < (l0_3.length : Int)
         ·rw [if_pos c17] at H
          have c17b0 : decide (x22_1 < (l0_3.length : Int)) = true := decide_eq_true c17
          clear c17
          replace H := Option.bind_eq_some_iff.mp H
          obtain ⟨tBJ, A180, H⟩ := H
          replace H : (if 1 + tBJ.size ≤ 9223372036854775807 then (if ((⟨#[59]⟩ : ByteArray) ++ tBJ).size + 1 ≤ 9223372036854775807 then ((strconv_Itoa_52.f ((rd_T61 l0_3 x22_1).f1)).bind fun tBK => (if (((⟨#[59]⟩ : ByteArray) ++ tBJ) ++ (⟨#[62]⟩ : ByteArray)).size + tBK.size ≤ 9223372036854775807 then (if x3_1.size + ((((⟨#[59]⟩ : ByteArray) ++ tBJ) ++ (⟨#[62]⟩ : ByteArray)) ++ tBK).size ≤ 9223372036854775807 then (impl_boardText.l0 k1 (x3_1 ++ ((((⟨#[59]⟩ : ByteArray) ++ tBJ) ++ (⟨#[62]⟩ : ByteArray)) ++ tBK)) l0_3 (l0_3.length : Int) (wrap64 (x22_1 + 1))) else (none)) else (none))) else (none)) else (none)) = some r := H
          have A18 := Am A180
          clear A180
          by_cases c19 : 1 + tBJ.size ≤ 9223372036854775807
          ·rw [if_pos c19] at H
           have c19b0 := eq_true c19
           have c19b1 : decide (1 + tBJ.size ≤ 9223372036854775807) = true := decide_eq_true c19
           try have c19b2 : (9223372036854775807 < 1 + tBJ.size) = False := eq_false (Nat.not_lt.2 c19)
           try have c19b3 : (9223372036854775807 < 1 + tBJ.size) = False := by (have h_ := c19b2; simp only [ByteArray.size_append] at h_; exact h_)
           by_cases c20 : ((⟨#[59]⟩ : ByteArray) ++ tBJ).size + 1 ≤ 9223372036854775807
           ·rw [if_pos c20] at H
            have c20b0 := eq_true c20
            have c20b1 : decide (((⟨#[59]⟩ : ByteArray) ++ tBJ).size + 1 ≤ 9223372036854775807) = true := decide_eq_true c20
            try have c20b2 : (9223372036854775807 < ((⟨#[59]⟩ : ByteArray) ++ tBJ).size + 1) = False := eq_false (Nat.not_lt.2 c20)
            try have c20b3 : (9223372036854775807 < 1 + tBJ.size + 1) = False := by (have h_ := c20b2; simp only [ByteArray.size_append] at h_; exact h_)
            replace H := Option.bind_eq_some_iff.mp H
            obtain ⟨tBK, A210, H⟩ := H
            replace H : (if (((⟨#[59]⟩ : ByteArray) ++ tBJ) ++ (⟨#[62]⟩ : ByteArray)).size + tBK.size ≤ 9223372036854775807 then (if x3_1.size + ((((⟨#[59]⟩ : ByteArray) ++ tBJ) ++ (⟨#[62]⟩ : ByteArray)) ++ tBK).size ≤ 9223372036854775807 then (impl_boardText.l0 k1 (x3_1 ++ ((((⟨#[59]⟩ : ByteArray) ++ tBJ) ++ (⟨#[62]⟩ : ByteArray)) ++ tBK)) l0_3 (l0_3.length : Int) (wrap64 (x22_1 + 1))) else (none)) else (none)) = some r := H
            have A21 := Am A210
            clear A210
            by_cases c22 : (((⟨#[59]⟩ : ByteArray) ++ tBJ) ++ (⟨#[62]⟩ : ByteArray)).size + tBK.size ≤ 9223372036854775807
            ·rw [if_pos c22] at H
             have c22b0 := eq_true c22
             have c22b1 : decide ((((⟨#[59]⟩ : ByteArray) ++ tBJ) ++ (⟨#[62]⟩ : ByteArray)).size + tBK.size ≤ 9223372036854775807) = true := decide_eq_true c22
             try have c22b2 : (9223372036854775807 < (((⟨#[59]⟩ : ByteArray) ++ tBJ) ++ (⟨#[62]⟩ : ByteArray)).size + tBK.size) = False := eq_false (Nat.not_lt.2 c22)
             try have c22b3 : (9223372036854775807 < 1 + tBJ.size + 1 + tBK.size) = False := by (have h_ := c22b2; simp only [ByteArray.size_append] at h_; exact h_)
             by_cases c23 : x3_1.size + ((((⟨#[59]⟩ : ByteArray) ++ tBJ) ++ (⟨#[62]⟩ : ByteArray)) ++ tBK).size ≤ 9223372036854775807
             ·rw [if_pos c23] at H
              have c23b0 := eq_true c23
              have c23b1 : decide (x3_1.size + ((((⟨#[59]⟩ : ByteArray) ++ tBJ) ++ (⟨#[62]⟩ : ByteArray)) ++ tBK).size ≤ 9223372036854775807) = true := decide_eq_true c23
              try have c23b2 : (9223372036854775807 < x3_1.size + ((((⟨#[59]⟩ : ByteArray) ++ tBJ) ++ (⟨#[62]⟩ : ByteArray)) ++ tBK).size) = False := eq_false (Nat.not_lt.2 c23)
              try have c23b3 : (9223372036854775807 < x3_1.size + (1 + tBJ.size + 1 + tBK.size)) = False := by (have h_ := c23b2; simp only [ByteArray.size_append] at h_; exact h_)
              have H' := Am H
              clear H
              have pBH : 0 ≤ (x22_1 : Int) := ofd
              have qBH : x22_1 < (l0_3.length : Int) := ofd
              obtain ⟨adBH, eBH, hxBH_0, hxBH_1⟩ := at_T61 HR0_3.out x22_1 pBH qBH
              cases eBH
              first | (replace hxBH_0 := (HB.out.cell (World.block_lt_of_cell? w _ hxBH_0)).trans hxBH_0) | skip
              first | (replace hxBH_1 := (HB.out.cell (World.block_lt_of_cell? w _ hxBH_1)).trans hxBH_1) | skip
              replace pBH := eq_true pBH
              replace qBH := eq_true qBH
              try go_wp2_with (first | ((with_reducible refine gate_dst (N := 5) rfl ?_); refine box_event (by rfl) (N := 5) (by rfl) (cs := #[.int .i64 0, .int .i64 0]) (t := 61) hrS ?_; intro gbBI hg w24 hbox hb; have n0_ := Am (blk_below (blk_up BKBD.out) hb); have n1_ := Am (below_step belS hb); have n2_ := Am (hbox); have n3_ := Am (geS hg : w.heap.size ≤ gbBI); have n4_ := n3_; have n5_ := Am ((by rw [hg]; exact Nat.ne_of_lt (blk_lt (blk_up BKBD.out)) : gbBD ≠ gbBI)); have n6_ := Am ((by rw [hg]; exact Nat.ne_of_gt (blk_lt (blk_up BKBD.out)) : gbBI ≠ gbBD)); clear BKBD HB; revert n0_ n1_ n2_ n3_ n4_ n5_ n6_; intro BKBD HB BKBI GWBI GEBI NBBD_BI NBBI_BD; clear hb hbox hg; have hnb25 := NBBI_BD.out; have hnc25 := NBBD_BI.out; obtain ⟨hcz26_0, hcz26_1, hfz26_0, hfz26_1⟩ := blk2 BKBI.out))
              have n0_ : Aside0 (((w24.setCell ⟨gbBI, 0, none⟩ (.int .i64 ((rd_T61 l0_3 x22_1).f0))).setCell ⟨gbBI, 1, none⟩ (.int .i64 ((rd_T61 l0_3 x22_1).f1))).heap[gbBD]? = some (.cells #[.int .i64 a0_0, .int .i64 a0_1, .int .i64 a0_2, .slice (some adBH) l0_3.length c0_3] 24 (0, 0))) := ⟨by (with_reducible repeat (first | refine blk_drewN ?_ _ | refine blk_drew ?_ | refine blk_alloc ?_ _)); refine blk_farU ?_ NBBD_BI.out _; refine blk_farU ?_ NBBD_BI.out _; exact BKBD.out⟩
              have n1_ : Aside0 (((w24.setCell ⟨gbBI, 0, none⟩ (.int .i64 ((rd_T61 l0_3 x22_1).f0))).setCell ⟨gbBI, 1, none⟩ (.int .i64 ((rd_T61 l0_3 x22_1).f1))).heap[gbBI]? = some (.cells #[.int .i64 ((rd_T61 l0_3 x22_1).f0), .int .i64 ((rd_T61 l0_3 x22_1).f1)] 61 (0, 0))) := ⟨by (with_reducible repeat (first | refine blk_drewN ?_ _ | refine blk_drew ?_ | refine blk_alloc ?_ _)); refine blk_put (cs := #[.int .i64 ((rd_T61 l0_3 x22_1).f0), .int .i64 0]) ?_ 1 _ rfl; refine blk_putU (cs := #[.int .i64 0, .int .i64 0]) ?_ 0 _ rfl; exact BKBI.out⟩
              have n2_ : Aside0 (Below w.heap.size w ((w24.setCell ⟨gbBI, 0, none⟩ (.int .i64 ((rd_T61 l0_3 x22_1).f0))).setCell ⟨gbBI, 1, none⟩ (.int .i64 ((rd_T61 l0_3 x22_1).f1)))) := ⟨by exact belS⟩
              (try clear BKBD)
              (try clear BKBI)
              (try clear HB)
              generalize ((w24.setCell ⟨gbBI, 0, none⟩ (.int .i64 ((rd_T61 l0_3 x22_1).f0))).setCell ⟨gbBI, 1, none⟩ (.int .i64 ((rd_T61 l0_3 x22_1).f1))) = w27 at n0_ n1_ n2_ ⊢
              have BKBD := n0_
              have BKBI := n1_
              have HB := n2_
              clear n0_ n1_ n2_
              have n0_ := Am (blk_drew BKBD.out)
              have n1_ := Am (blk_drew BKBI.out)
              have n2_ := Am (below_drew1 HB.out)
              clear BKBD
              clear BKBI
              clear HB
              have BKBD := n0_
              have BKBI := n1_
              have HB := n2_
              clear n0_ n1_ n2_
              refine start_ (n := 12) (S := fun w' => w'.cell? ⟨gbBI, 0, none⟩ = some (.int .i64 ((rd_T61 l0_3 x22_1).f0)) ∧ w'.cell? ⟨gbBI, 1, none⟩ = some (.int .i64 ((rd_T61 l0_3 x22_1).f1))) (ds := []) #[false, false, false, false, false, false, false, false, false, false, false, false] (by kernel_rfl) rfl rfl ⟨(blk_cell BKBI.out 0).trans rfl, (blk_cell BKBI.out 1).trans rfl⟩ (fun hHeld => ?_); refine with_tabW impl_boardText.tab5 impl_boardText.bits5 (fun HT_ HW_ => ?_)
              generalize w27.drew = w28 at BKBD BKBI HB hHeld ⊢
              refine puS 0 26 ?_
              refine puS 1 27 ?_
              refine puS 6 32 ?_
              refine tkS 2 28 ?_
              refine tkS 7 33 ?_
              refine one_ (i := 3) (N := some 29) #[true, true, true, true, false, false, true, true, false, false, false, false] rfl rfl (one_of HT_.out (by kernel_rfl)) (by decide) (fun K hK => ?_)
              refine goes_ Tryd.func52 (by kernel_rfl) rfl #[.int .i64 ((rd_T61 l0_3 x22_1).f0)] (by rfl) rfl rfl argS ?_
              with_reducible refine (strconv_Itoa_52.calls ((rd_T61 l0_3 x22_1).f0) tBJ _ A18.out (tab_up HT.out belS)).mono ?_
              rintro e w29 ⟨rfl, hb⟩
              refine ⟨_, rfl, ?_⟩
              have n0_ := Am (blk_below (blk_up BKBD.out) hb)
              have n1_ := Am (blk_below (blk_up BKBI.out) hb)
              have n2_ := Am (below_step belS hb)
              clear BKBD
              clear BKBI
              clear HB
              have BKBD := n0_
              have BKBI := n1_
              have HB := n2_
              clear n0_ n1_ n2_
              (try clear hb)
              (try clear hb2)
              (try clear hk)
              (try clear hi)
              refine hK.out _ _ ⟨(blk_cell BKBI.out 0).trans rfl, (blk_cell BKBI.out 1).trans rfl⟩ (fun hHeld => ?_)
              clear hK K
              refine norm_ (a' := ?_) ?_ ?_
              rotate_left
              ·show Act.put _ (some 29) _ = _
               simp only [Act.put, sA_, sB_, sC_, i64_w, i32_w]
               rfl
              refine puS 4 30 ?_
              refine puS 5 31 ?_
              refine one_ (i := 8) (N := some 34) #[true, true, true, true, true, true, true, true, true, false, false, false] rfl rfl (one_of HT_.out (by kernel_rfl)) (by decide) (fun K hK => ?_)
              refine goes_ Tryd.func52 (by kernel_rfl) rfl #[.int .i64 ((rd_T61 l0_3 x22_1).f1)] (by rfl) rfl rfl argS ?_
              with_reducible refine (strconv_Itoa_52.calls ((rd_T61 l0_3 x22_1).f1) tBK _ A21.out (tab_up HT.out belS)).mono ?_
              rintro e w30 ⟨rfl, hb⟩
              refine ⟨_, rfl, ?_⟩
              have n0_ := Am (blk_below (blk_up BKBD.out) hb)
              have n1_ := Am (blk_below (blk_up BKBI.out) hb)
              have n2_ := Am (below_step belS hb)
              clear BKBD
              clear BKBI
              clear HB
              have BKBD := n0_
              have BKBI := n1_
              have HB := n2_
              clear n0_ n1_ n2_
              (try clear hb)
              (try clear hb2)
              (try clear hk)
              (try clear hi)
              refine hK.out _ _ ⟨(blk_cell BKBI.out 0).trans rfl, (blk_cell BKBI.out 1).trans rfl⟩ (fun hHeld => ?_)
              clear hK K
              refine norm_ (a' := ?_) ?_ ?_
              rotate_left
              ·show Act.put _ (some 34) _ = _
               simp only [Act.put, sA_, sB_, sC_, i64_w, i32_w]
               rfl
              refine puS 9 35 ?_
              refine puS 10 36 ?_
              refine puS 11 3 ?_
              refine done_ (done_of HT_.out (by kernel_rfl)) ?_
              try go_wp2
              go_roundg k1
              case measure => have := HK1.out; omega
              case rel => exact ⟨(x3_1 ++ ((((⟨#[59]⟩ : ByteArray) ++ tBJ) ++ (⟨#[62]⟩ : ByteArray)) ++ tBK)), (wrap64 (x22_1 + 1)), rfS, rfS, H', ⟨by have := HK1.out; omega⟩, ⟨by first | exact blk_up BKBD.out | exact BKBD.out⟩, ⟨by exact belS⟩⟩
             ·rw [if_neg c23] at H
              exact absurd H (by simp)
            ·rw [if_neg c22] at H
             exact absurd H (by simp)
           ·rw [if_neg c20] at H
            exact absurd H (by simp)
          ·rw [if_neg c19] at H
           exact absurd H (by simp)
         ·rw [if_neg c17] at H
          exact absurd H (by simp)
        ·rw [if_neg c16] at H
         exact absurd H (by simp)
       ·rw [if_neg c15] at H
        have c15b0 : decide (x22_1 < (l0_3.length : Int)) = false := decide_eq_false c15
        clear c15
        obtain rfl := Option.some.inj H
        go_wp2
        go_ret
        exact ⟨rfE, by exact belS⟩
    ·rw [if_neg c8] at H
     exact absurd H (by simp)
   ·rw [if_neg c6] at H
    exact absurd H (by simp)
  ·rw [if_neg c5] at H
   exact absurd H (by simp)
 ·rw [if_neg c3] at H
  exact absurd H (by simp)

/-! ### impl_BoardText: function 20 -/
def impl_BoardText.f (k : Nat) (a0_0 : Int) (a0_1 : Int) (a0_2 : Int) (l0_3 : List (S61)) : Option (ByteArray × Bool) := (impl_IsBoard.f k a0_0 a0_1 a0_2 l0_3).bind fun tBE => (if tBE = true then ((impl_boardText.f k a0_0 a0_1 a0_2 l0_3).bind fun tBF => (some (tBF, true))) else (some ((⟨#[]⟩ : ByteArray), false)))
set_option maxHeartbeats 8000000 in
set_option maxRecDepth 100000 in
theorem impl_BoardText.calls (k : Nat) (a0_0 : Int) (a0_1 : Int) (a0_2 : Int) (A0_3 : Option Addr) (c0_3 : Nat) (l0_3 : List (S61)) (r1 : ByteArray) (r2 : Bool) (w : World) (hr0_3 : Kd.C k61 w A0_3 l0_3.length l0_3) (hc0_3 : l0_3.length ≤ c0_3) (h : impl_BoardText.f k a0_0 a0_1 a0_2 l0_3 = some (r1, r2)) (ht : TabW w) :
  Calls Tryd.prog 20 #[.agg #[.int .i64 a0_0, .int .i64 a0_1, .int .i64 a0_2, .slice A0_3 l0_3.length c0_3]] w fun e w' => e = .returned (.tuple #[.string r1, .bool r2]) ∧ Below w.heap.size w w' := by
 have HT := Am ht
 clear ht
 have hu24 := Tryd.underlying24
 have HR0_3 := Am hr0_3
 have HC0_3 := Am hc0_3
 clear hr0_3 hc0_3
 have HB := Am (Below.refl w.heap.size w)
 have H : ((impl_IsBoard.f k a0_0 a0_1 a0_2 l0_3).bind fun tBE => (if tBE = true then ((impl_boardText.f k a0_0 a0_1 a0_2 l0_3).bind fun tBF => (some (tBF, true))) else (some ((⟨#[]⟩ : ByteArray), false)))) = some (r1, r2) := h
 clear h
 replace H := Option.bind_eq_some_iff.mp H
 obtain ⟨tBE, A20, H⟩ := H
 replace H : (if tBE = true then ((impl_boardText.f k a0_0 a0_1 a0_2 l0_3).bind fun tBF => (some (tBF, true))) else (some ((⟨#[]⟩ : ByteArray), false))) = some (r1, r2) := H
 have A2 := Am A20
 clear A20
 by_cases c3 : tBE = true
 ·subst c3
  have H1 : ((impl_boardText.f k a0_0 a0_1 a0_2 l0_3).bind fun tBF => (some (tBF, true))) = some (r1, r2) := by rw [if_pos rfl] at H; exact H
  clear H
  have H := H1
  clear H1
  replace H := Option.bind_eq_some_iff.mp H
  obtain ⟨tBF, A40, H⟩ := H
  replace H : (some (tBF, true)) = some (r1, r2) := H
  have A4 := Am A40
  clear A40
  simp only [Option.some.injEq, Prod.mk.injEq] at H
  obtain ⟨rfl, rfl⟩ := H
  go_enter Tryd.func20, Tryd.ntmps20
  go_wp2_with (first | ((with_reducible refine gate_dst (N := 1) rfl ?_); refine box_event (by rfl) (N := 1) (by rfl) (cs := #[.int .i64 a0_0, .int .i64 a0_1, .int .i64 a0_2, .slice A0_3 l0_3.length c0_3]) (t := 24) hrS ?_; intro gbBD hg w5 hbox hb; have n0_ := Am (below_step belS hb); have n1_ := Am (hbox); have n2_ := Am (geS hg : w.heap.size ≤ gbBD); have n3_ := n2_; clear HB; revert n0_ n1_ n2_ n3_; intro HB BKBD GWBD GEBD; clear hb hbox hg; obtain ⟨hcz6_0, hcz6_1, hcz6_2, hcz6_3, hfz6_0, hfz6_1, hfz6_2, hfz6_3⟩ := blk4 BKBD.out) | ((with_reducible refine gate_callee (f := 30) rfl ?_); refine goesL_ (some 5) rfl rfl Tryd.func30 (by kernel_rfl) rfl #[.agg #[.int .i64 a0_0, .int .i64 a0_1, .int .i64 a0_2, .slice A0_3 l0_3.length c0_3]] rfl argS ?_; (with_reducible refine (impl_IsBoard.calls k a0_0 a0_1 a0_2 _ _ l0_3 true _ ?side1 ?side2 A2.out).mono ?_); (case side1 => exact Kd.C_up (Kd.C_below HR0_3.out HB.out)); (case side2 => exact HC0_3.out); rintro e w7 ⟨rfl, hb⟩; refine ⟨_, rfl, ?_⟩; have n0_ := Am (blk_below (blk_up BKBD.out) hb); have n1_ := Am (below_step belS hb); clear BKBD HB; revert n0_ n1_; intro BKBD HB; (try clear hb); obtain ⟨hcz8_0, hcz8_1, hcz8_2, hcz8_3, hfz8_0, hfz8_1, hfz8_2, hfz8_3⟩ := blk4 BKBD.out) | ((with_reducible refine gate_callee (f := 31) rfl ?_); refine goesL_ (some 8) rfl rfl Tryd.func31 (by kernel_rfl) rfl #[.agg #[.int .i64 a0_0, .int .i64 a0_1, .int .i64 a0_2, .slice A0_3 l0_3.length c0_3]] rfl argS ?_; (with_reducible refine (impl_boardText.calls k a0_0 a0_1 a0_2 _ _ l0_3 tBF _ ?side1 ?side2 A4.out (tab_up HT.out belS)).mono ?_); (case side1 => exact Kd.C_up (Kd.C_below HR0_3.out HB.out)); (case side2 => exact HC0_3.out); rintro e w9 ⟨rfl, hb⟩; refine ⟨_, rfl, ?_⟩; have n0_ := Am (blk_below (blk_up BKBD.out) hb); have n1_ := Am (below_step belS hb); clear BKBD HB; revert n0_ n1_; intro BKBD HB; (try clear hb)))
  go_ret2
  exact ⟨rfE, by exact belS⟩
 ·replace c3 := Bool.eq_false_iff.mpr c3
  subst c3
  have H1 : (some ((⟨#[]⟩ : ByteArray), false)) = some (r1, r2) := by rw [if_neg (show ¬ (false = true) by decide)] at H; exact H
  clear H
  have H := H1
  clear H1
  simp only [Option.some.injEq, Prod.mk.injEq] at H
  obtain ⟨rfl, rfl⟩ := H
  go_enter Tryd.func20, Tryd.ntmps20
  go_wp2_with (first | ((with_reducible refine gate_dst (N := 1) rfl ?_); refine box_event (by rfl) (N := 1) (by rfl) (cs := #[.int .i64 a0_0, .int .i64 a0_1, .int .i64 a0_2, .slice A0_3 l0_3.length c0_3]) (t := 24) hrS ?_; intro gbBD hg w10 hbox hb; have n0_ := Am (below_step belS hb); have n1_ := Am (hbox); have n2_ := Am (geS hg : w.heap.size ≤ gbBD); have n3_ := n2_; clear HB; revert n0_ n1_ n2_ n3_; intro HB BKBD GWBD GEBD; clear hb hbox hg; obtain ⟨hcz11_0, hcz11_1, hcz11_2, hcz11_3, hfz11_0, hfz11_1, hfz11_2, hfz11_3⟩ := blk4 BKBD.out) | ((with_reducible refine gate_callee (f := 30) rfl ?_); refine goesL_ (some 5) rfl rfl Tryd.func30 (by kernel_rfl) rfl #[.agg #[.int .i64 a0_0, .int .i64 a0_1, .int .i64 a0_2, .slice A0_3 l0_3.length c0_3]] rfl argS ?_; (with_reducible refine (impl_IsBoard.calls k a0_0 a0_1 a0_2 _ _ l0_3 false _ ?side1 ?side2 A2.out).mono ?_); (case side1 => exact Kd.C_up (Kd.C_below HR0_3.out HB.out)); (case side2 => exact HC0_3.out); rintro e w12 ⟨rfl, hb⟩; refine ⟨_, rfl, ?_⟩; have n0_ := Am (blk_below (blk_up BKBD.out) hb); have n1_ := Am (below_step belS hb); clear BKBD HB; revert n0_ n1_; intro BKBD HB; (try clear hb)))
  go_ret2
  exact ⟨rfE, by exact belS⟩

end Go.Proofs.YtnbleinhabllnaaDoor.Pr
