-- A text of the machine side, written by wip/gen.py of this repo out of the translation. Not trusted: Lean checks it.
import Derived.Test.YtkobjjadojpjfaaF0
import Derived.Test.YtkobjjadojpjfaaFGB
import Derived.Test.YtkobjjadojpjfaaFGC
namespace Go.Proofs.Ytkobjjadojpjfaa.Pr
open Go.RowKit Go.Proofs.YtkobjjadojpjfaaW.PrintWords Go.Proofs.YtkobjjadojpjfaaW.PrintLast Go.Proofs.YtkobjjadojpjfaaW.PrintMore
attribute [local go_sem] max2_int min2_int max_two min_two max_three min_three max_four min_four   -- for this text's walks alone
set_option linter.unusedVariables false
set_option linter.unusedSimpArgs false

/-! ### spec_sqFar: function 127 -/
mutual
def spec_sqFar.l0 : Nat → List Int → Int → Int → Int → Int → Int → List (S27) → Option (List Int)
 | 0, _, _, _, _, _, _, _ => none
 | k + 1, x3, x18, x19, xBE000, xBE001, xBE002, xBE003 => if x19 < x18 then (if 0 ≤ x19 then (if x19 < (x3.length : Int) then (spec_sqFar.l0 k (x3.set (x19 : Int).toNat (-1)) x18 (wrap64 (x19 + 1)) xBE000 xBE001 xBE002 xBE003) else (none)) else (none)) else (if 0 ≤ xBE000 then (if xBE000 < (x3.length : Int) then (if 0 ≤ (wrap64 (xBE000 + 1)) then (if (wrap64 (xBE000 + 1) : Int).toNat ≤ 11728124029610 then (spec_sqFar.l1 k (x3.set (xBE000 : Int).toNat 0) (List.replicate (wrap64 (xBE000 + 1) : Int).toNat []) 0 xBE000 xBE001 xBE002 xBE003) else (none)) else (none)) else (none)) else (none))
def spec_sqFar.l1 : Nat → List Int → List (List Int) → Int → Int → Int → Int → List (S27) → Option (List Int)
 | 0, _, _, _, _, _, _, _ => none
 | k + 1, x3, x5, x6, xBE000, xBE001, xBE002, xBE003 => if x6 < xBE000 then (spec_sqFar.l2 k x3 x5 x6 1 xBE000 xBE001 xBE002 xBE003) else (spec_sqFar.l3 k x3 x5 (([xBE000] : List Int)) 0)
def spec_sqFar.l2 : Nat → List Int → List (List Int) → Int → Int → Int → Int → Int → List (S27) → Option (List Int)
 | 0, _, _, _, _, _, _, _, _ => none
 | k + 1, x3, x5, x6, x7, xBE000, xBE001, xBE002, xBE003 => if x7 ≤ xBE001 then ((spec_sqSquare.f k xBE000 xBE001 xBE002 xBE003 x6).bind fun tBM => (if tBM = true then ((spec_sqThrow.f k xBE000 xBE001 xBE002 xBE003 x6 x7).bind fun tBN => (if 0 ≤ tBN then (if tBN < (x5.length : Int) then (if (rd_L3 x5 tBN).length < 17592186044416 then (spec_sqFar.l2 k x3 (x5.set (tBN : Int).toNat ((rd_L3 x5 tBN) ++ [x6])) x6 (wrap64 (x7 + 1)) xBE000 xBE001 xBE002 xBE003) else (none)) else (none)) else (none))) else (spec_sqFar.l1 k x3 x5 (wrap64 (x6 + 1)) xBE000 xBE001 xBE002 xBE003))) else (spec_sqFar.l1 k x3 x5 (wrap64 (x6 + 1)) xBE000 xBE001 xBE002 xBE003)
def spec_sqFar.l3 : Nat → List Int → List (List Int) → List Int → Int → Option (List Int)
 | 0, _, _, _, _ => none
 | k + 1, x3, x5, x9, x10 => if x10 < (x9.length : Int) then (if 0 ≤ x10 then (if 0 ≤ (rd x9 x10) then (if (rd x9 x10) < (x5.length : Int) then (spec_sqFar.l4 k x3 x5 x9 x10 (rd_L3 x5 (rd x9 x10)) ((rd_L3 x5 (rd x9 x10)).length : Int) 0) else (none)) else (none)) else (none)) else (some x3)
def spec_sqFar.l4 : Nat → List Int → List (List Int) → List Int → Int → List Int → Int → Int → Option (List Int)
 | 0, _, _, _, _, _, _, _ => none
 | k + 1, x3, x5, x9, x10, x80, x81, x82 => if x82 < x81 then (if 0 ≤ x82 then (if x82 < (x80.length : Int) then (if 0 ≤ (rd x80 x82) then (if (rd x80 x82) < (x3.length : Int) then (if (rd x3 (rd x80 x82)) < 0 then (if 0 ≤ x10 then (if x10 < (x9.length : Int) then (if 0 ≤ (rd x9 x10) then (if (rd x9 x10) < (x3.length : Int) then (if x9.length < 17592186044416 then (spec_sqFar.l4 k (x3.set ((rd x80 x82) : Int).toNat (wrap64 ((rd x3 (rd x9 x10)) + 1))) x5 (x9 ++ [rd x80 x82]) x10 x80 x81 (wrap64 (x82 + 1))) else (none)) else (none)) else (none)) else (none)) else (none)) else (spec_sqFar.l4 k x3 x5 x9 x10 x80 x81 (wrap64 (x82 + 1)))) else (none)) else (none)) else (none)) else (none)) else (spec_sqFar.l3 k x3 x5 x9 (wrap64 (x10 + 1)))
end
def spec_sqFar.f (k : Nat) (a0_0 : Int) (a0_1 : Int) (a0_2 : Int) (l0_3 : List (S27)) : Option (List Int) := if 0 ≤ (wrap64 (a0_0 + 1)) then (if (wrap64 (a0_0 + 1) : Int).toNat ≤ 35184372088832 then ((some (List.replicate (wrap64 (a0_0 + 1) : Int).toNat 0 : List Int)).bind fun yBE => (spec_sqFar.l0 k yBE (yBE.length : Int) 0 a0_0 a0_1 a0_2 l0_3)) else (none)) else (none)
set_option maxHeartbeats 8000000 in
set_option maxRecDepth 100000 in
theorem spec_sqFar.calls (k : Nat) (a0_0 : Int) (a0_1 : Int) (a0_2 : Int) (A0_3 : Option Addr) (c0_3 : Nat) (l0_3 : List (S27)) (r : List Int) (w : World) (hr0_3 : Kd.C k27 w A0_3 l0_3.length l0_3) (hc0_3 : l0_3.length ≤ c0_3) (h : spec_sqFar.f k a0_0 a0_1 a0_2 l0_3 = some r) :
  Calls Try.prog 127 #[.agg #[.int .i64 a0_0, .int .i64 a0_1, .int .i64 a0_2, .slice A0_3 l0_3.length c0_3]] w fun e w' => ∃ v0_ : Value, e = .returned (v0_) ∧ Kd.R (Kd.int .i64) 3 w' w.heap.size (fun _ => True) v0_ r ∧ Below w.heap.size w w' := by
 have hu32 := Try.underlying32
 have HR0_3 := Am hr0_3
 have HC0_3 := Am hc0_3
 clear hr0_3 hc0_3
 have HB := Am (Below.refl w.heap.size w)
 have H : (if 0 ≤ (wrap64 (a0_0 + 1)) then (if (wrap64 (a0_0 + 1) : Int).toNat ≤ 35184372088832 then ((some (List.replicate (wrap64 (a0_0 + 1) : Int).toNat 0 : List Int)).bind fun yBE => (spec_sqFar.l0 k yBE (yBE.length : Int) 0 a0_0 a0_1 a0_2 l0_3)) else (none)) else (none)) = some r := h
 clear h
 obtain ⟨ji2, hji2⟩ : ∃ j_ : Int, (wrap64 (a0_0 + 1)) = j_ := ⟨_, rfl⟩
 replace H : (if 0 ≤ (ji2) then (if (ji2 : Int).toNat ≤ 35184372088832 then ((some (List.replicate (ji2 : Int).toNat 0 : List Int)).bind fun yBE => (spec_sqFar.l0 k yBE (yBE.length : Int) 0 a0_0 a0_1 a0_2 l0_3)) else (none)) else (none)) = some r := by first | (rw [hji2] at H; exact H) | (simp only [hji2] at H ⊢; exact H)
 have hji2w : (IntKind.i64.wrap (a0_0 + 1)) = ji2 := (i64_w _).trans hji2
 by_cases c3 : 0 ≤ (ji2)
 ·rw [if_pos c3] at H
  have c3b0 := eq_true c3
  have c3b1 : decide (0 ≤ (ji2)) = true := decide_eq_true c3
  clear c3
  by_cases c4 : (ji2 : Int).toNat ≤ 35184372088832
  ·rw [if_pos c4] at H
   have c4b0 := eq_true c4
   have c4b1 : decide ((ji2 : Int).toNat ≤ 35184372088832) = true := decide_eq_true c4
   clear c4
   obtain ⟨yBE, hyBE⟩ : ∃ y_ : List Int, y_ = (List.replicate (ji2 : Int).toNat 0) := ⟨_, rfl⟩
   replace H : (spec_sqFar.l0 k yBE (yBE.length : Int) 0 a0_0 a0_1 a0_2 l0_3) = some r := by first | (rw [hyBE]; with_reducible exact H) | (have H2_ := (Option.bind_some _ _).symm.trans H; rw [hyBE]; with_reducible exact H2_) | (have H2_ := (Option.bind_some _ _).symm.trans H; with_reducible exact H2_) | with_reducible exact H | (rw [hyBE]; exact H) | exact H
   have NyBE := Am hyBE
   clear hyBE
   have H' := Am H
   clear H
   go_enter Try.func127, Try.ntmps127
   go_wp2_with (first | ((with_reducible refine gate_dst (N := 1) rfl ?_); refine box_event (by rfl) (N := 1) (by rfl) (cs := #[.int .i64 a0_0, .int .i64 a0_1, .int .i64 a0_2, .slice A0_3 l0_3.length c0_3]) (t := 32) hrS ?_; intro gbBD hg w5 hbox hb; have n0_ := Am (below_step belS hb); have n1_ := Am (hbox); have n2_ := Am (geS hg : w.heap.size ≤ gbBD); have n3_ := n2_; clear HB; revert n0_ n1_ n2_ n3_; intro HB BKBD GWBD GEBD; clear hb hbox hg; obtain ⟨hcz6_0, hcz6_1, hcz6_2, hcz6_3, hfz6_0, hfz6_1, hfz6_2, hfz6_3⟩ := blk4 BKBD.out) | ((with_reducible refine gate_dst (N := 16) rfl ?_); refine Kd.R_make (Kd.int .i64) _ 3 rfl (N := 16) rfl 58 _ _ rfl ji2 rfl rfl Try.underlying58 (.int .i64 0) 8 info3 rfl (by decide) (by omega) 0 (ok := fun _ => True) (okp := fun _ => True) rfl (fun _ hk => hk) trivial ofd (Nat.le_trans (Nat.mul_le_mul_right _ (ofd : ji2.toNat ≤ 35184372088832)) (by omega)) (Below.refl _ _) (Nat.le_refl _) ?_; intro vBF w7 ho8 hb hg_ hnew_; clear hg_ hnew_; (first | rw [← NyBE.out] at ho8 | (simp only [Int.reduceToNat] at ho8; rw [← NyBE.out] at ho8)); have n0_ := Am (Kd.R_lower ho8 (below_size belS)); have n1_ := Am (blk_below (blk_up BKBD.out) hb); have n2_ := Am (below_step belS hb); clear BKBD HB; revert n0_ n1_ n2_; intro HOBG BKBD HB; clear hb ho8; obtain ⟨Ao9, co9, eo9⟩ := Kd.R_slice HOBG.out; subst eo9))
   go_loopg [19] k (fun kq v19 w' => ∃ (x3_1 : List Int) (x19_1 : Int), v19 = .int .i64 x19_1 ∧ Aside0 (spec_sqFar.l0 kq x3_1 (yBE.length : Int) x19_1 a0_0 a0_1 a0_2 l0_3 = some r) ∧ Aside0 (kq ≤ k) ∧ Aside0 (Kd.R (Kd.int .i64) 3 w' w.heap.size (fun _ => True) (.slice Ao9 yBE.length co9) x3_1) ∧ Aside0 (w'.heap[gbBD]? = some (.cells #[.int .i64 a0_0, .int .i64 a0_1, .int .i64 a0_2, (.slice A0_3 l0_3.length c0_3)] 32 (0, 0))) ∧ Aside0 (Below w.heap.size w w'))
   case atStart => exact ⟨(yBE), (0), rfS, H', ⟨Nat.le_refl _⟩, ⟨by first | exact Kd.R_up HOBG.out | exact HOBG.out⟩, ⟨by first | exact blk_up BKBD.out | exact BKBD.out⟩, ⟨by exact belS⟩⟩
   case round =>
    clear H'
    try clear c3
    try clear c3b0
    try clear c3b1
    try clear c4
    try clear c4b0
    try clear c4b1
    try clear hcz6_0 hcz6_1 hcz6_2 hcz6_3
    try clear hfz6_0 hfz6_1 hfz6_2 hfz6_3
    obtain ⟨x3_1, x19_1, rfl, HA, HK1, HO_3, BKBD, HB⟩ := hrel
    have hl3_1 := (Kd.R_reads' HO_3.out).1
    rw [hl3_1] at HO_3
    (try simp only [hl3_1])
    (try simp only [hl3_1] at BKBD)
    cases gk with
    | zero => exact absurd HA.out (by simp [spec_sqFar.l0])
    | succ k1 =>
     have H := HA.out
     clear HA
     simp only [spec_sqFar.l0] at H
     by_cases c10 : x19_1 < (yBE.length : Int)
     ·rw [if_pos c10] at H
      have c10b0 : decide (x19_1 < (yBE.length : Int)) = true := decide_eq_true c10
      (try (have c10b0z := c10b0; rw [hl3_1] at c10b0z))
      clear c10
      by_cases c11 : 0 ≤ x19_1
      ·rw [if_pos c11] at H
       have c11b0 : decide (0 ≤ x19_1) = true := decide_eq_true c11
       clear c11
       by_cases c12 : x19_1 < (x3_1.length : Int)
       ·rw [if_pos c12] at H
        have c12b0 : decide (x19_1 < (x3_1.length : Int)) = true := decide_eq_true c12
        (try (have c12b0z := c12b0; rw [hl3_1] at c12b0z))
        clear c12
        obtain ⟨yBH, hyBH⟩ : ∃ y_ : List Int, y_ = (x3_1.set (x19_1 : Int).toNat (-1)) := ⟨_, rfl⟩
        replace H : (spec_sqFar.l0 k1 yBH (yBE.length : Int) (wrap64 (x19_1 + 1)) a0_0 a0_1 a0_2 l0_3) = some r := by first | (rw [hyBH]; with_reducible exact H) | (have H2_ := (Option.bind_some _ _).symm.trans H; rw [hyBH]; with_reducible exact H2_) | (have H2_ := (Option.bind_some _ _).symm.trans H; with_reducible exact H2_) | with_reducible exact H | (rw [hyBH]; exact H) | exact H
        have NyBH := Am hyBH
        clear hyBH
        have H' := Am H
        clear H
        have p13 : 0 ≤ (x19_1 : Int) := ofd
        have q13 : (x19_1 : Int) < ((x3_1.length : Int) : Int) := ofd
        obtain ⟨go13, co13, eo13, gb13, gl13, cl13, HG13⟩ := Kd.R_form HO_3.out (by omega)
        (first | cases eo13 | (injection eo13 with ea_ en_ ec_; (first | subst ea_ | (injection ea_ with ea_; subst ea_)); subst ec_; clear en_))
        have GB13 := Am gb13
        have GG13 := Am HG13
        clear gb13 gl13 HG13
        obtain ⟨hx13_0, hf13_0⟩ := Kd.R_celln 0 HO_3.out (x19_1 : Int) p13 q13
        replace p13 := eq_true p13
        replace q13 := eq_true q13
        have HP14 := Kd.R_putg HO_3.out (x19_1 : Int) (-1)
        go_wp2_with (first | ((with_reducible refine gate_store (t := 3) (p := 24) rfl ?_); refine store_event (t := 3) (p := 24) (v := ?vo_w15) (w1 := (wr.setCell ⟨go13, (x19_1 : Int).toNat, none⟩ (.int .i64 (-1)))) ?hg ?ho ?hn ?hr ?_; (case ho => rfl); (case hg => rfl); (case hn => rfl); (case hr => first | (go_simp; done) | (go_simp; rfl)); intro w15 hw; have hg : wr.grownBy w15 (some go13) := (by rw [hw]; exact HP14.2); have hp_ : Kd.R (Kd.int .i64) 3 w15 w.heap.size (fun _ => True) (.slice (some ⟨go13, 0, none⟩) x3_1.length co9) yBH := (by rw [hw, NyBH.out]; exact HP14.1); clear HP14; have n0_ := Am (hp_); have n1_ := Am (blk_grown (g := gbBD) (o := .cells #[.int .i64 a0_0, .int .i64 a0_1, .int .i64 a0_2, .slice A0_3 l0_3.length c0_3] 32 (0, 0)) (blk_up BKBD.out) hg (Kd.R_ne HO_3.out BKBD.out (by decide))); have n2_ := Am ((by rw [hw]; exact below_set (HB.out) GB13.out : Below w.heap.size w w15)); clear HO_3 BKBD HB; revert n0_ n1_ n2_; intro HO_3 BKBD HB; clear hg hw hp_))
        (try simp only [← hl3_1])
        go_roundg k1
        case measure => have := HK1.out; omega
        case rel => exact ⟨(yBH), (wrap64 (x19_1 + 1)), rfS, H', ⟨by have := HK1.out; omega⟩, ⟨by (try simp only [hl3_1]); (with_reducible repeat (first | apply Kd.R_alloc | apply Kd.R_drewN | apply Kd.R_drew)); exact HO_3.out⟩, ⟨by (try simp only [hl3_1]); (with_reducible repeat (first | refine blk_drewN ?_ _ | refine blk_drew ?_ | refine blk_alloc ?_ _)); exact BKBD.out⟩, ⟨by exact belS⟩⟩
       ·rw [if_neg c12] at H
        exact absurd H (by simp)
      ·rw [if_neg c11] at H
       exact absurd H (by simp)
     ·rw [if_neg c10] at H
      have c10b0 : decide (x19_1 < (yBE.length : Int)) = false := decide_eq_false c10
      (try (have c10b0z := c10b0; rw [hl3_1] at c10b0z))
      clear c10
      by_cases c16 : 0 ≤ a0_0
      ·rw [if_pos c16] at H
       have c16b0 : decide (0 ≤ a0_0) = true := decide_eq_true c16
       clear c16
       by_cases c17 : a0_0 < (x3_1.length : Int)
       ·rw [if_pos c17] at H
        have c17b0 : decide (a0_0 < (x3_1.length : Int)) = true := decide_eq_true c17
        (try (have c17b0z := c17b0; rw [hl3_1] at c17b0z))
        clear c17
        obtain ⟨yBI, hyBI⟩ : ∃ y_ : List Int, y_ = (x3_1.set (a0_0 : Int).toNat 0) := ⟨_, rfl⟩
        replace H : (if 0 ≤ (wrap64 (a0_0 + 1)) then (if (wrap64 (a0_0 + 1) : Int).toNat ≤ 11728124029610 then (spec_sqFar.l1 k1 yBI (List.replicate (wrap64 (a0_0 + 1) : Int).toNat []) 0 a0_0 a0_1 a0_2 l0_3) else (none)) else (none)) = some r := by first | (rw [hyBI]; with_reducible exact H) | (have H2_ := (Option.bind_some _ _).symm.trans H; rw [hyBI]; with_reducible exact H2_) | (have H2_ := (Option.bind_some _ _).symm.trans H; with_reducible exact H2_) | with_reducible exact H | (rw [hyBI]; exact H) | exact H
        have NyBI := Am hyBI
        clear hyBI
        try clear hji2w
        try clear hji2
        try clear hji2w
        try clear hji2
        obtain ⟨ji19, hji19⟩ : ∃ j_ : Int, (wrap64 (a0_0 + 1)) = j_ := ⟨_, rfl⟩
        replace H : (if 0 ≤ (ji19) then (if (ji19 : Int).toNat ≤ 11728124029610 then (spec_sqFar.l1 k1 yBI (List.replicate (ji19 : Int).toNat []) 0 a0_0 a0_1 a0_2 l0_3) else (none)) else (none)) = some r := by first | (rw [hji19] at H; exact H) | (simp only [hji19] at H ⊢; exact H)
        have hji19w : (IntKind.i64.wrap (a0_0 + 1)) = ji19 := (i64_w _).trans hji19
        by_cases c20 : 0 ≤ (ji19)
        ·rw [if_pos c20] at H
         have c20b0 := eq_true c20
         have c20b1 : decide (0 ≤ (ji19)) = true := decide_eq_true c20
         clear c20
         by_cases c21 : (ji19 : Int).toNat ≤ 11728124029610
         ·rw [if_pos c21] at H
          have c21b0 := eq_true c21
          have c21b1 : decide ((ji19 : Int).toNat ≤ 11728124029610) = true := decide_eq_true c21
          clear c21
          obtain ⟨yBJ, hyBJ⟩ : ∃ y_ : List (List Int), y_ = (List.replicate (ji19 : Int).toNat []) := ⟨_, rfl⟩
          replace H : (spec_sqFar.l1 k1 yBI yBJ 0 a0_0 a0_1 a0_2 l0_3) = some r := by first | (rw [hyBJ]; with_reducible exact H) | (have H2_ := (Option.bind_some _ _).symm.trans H; rw [hyBJ]; with_reducible exact H2_) | (have H2_ := (Option.bind_some _ _).symm.trans H; with_reducible exact H2_) | with_reducible exact H | (rw [hyBJ]; exact H) | exact H
          have NyBJ := Am hyBJ
          clear hyBJ
          have H' := Am H
          clear H
          obtain ⟨hcz22_0, hcz22_1, hcz22_2, hcz22_3, hfz22_0, hfz22_1, hfz22_2, hfz22_3⟩ := blk4 BKBD.out
          have p18 : 0 ≤ (a0_0 : Int) := ofd
          have q18 : (a0_0 : Int) < ((x3_1.length : Int) : Int) := ofd
          obtain ⟨go18, co18, eo18, gb18, gl18, cl18, HG18⟩ := Kd.R_form HO_3.out (by omega)
          (first | cases eo18 | (injection eo18 with ea_ en_ ec_; (first | subst ea_ | (injection ea_ with ea_; subst ea_)); subst ec_; clear en_))
          have GB18 := Am gb18
          have GG18 := Am HG18
          clear gb18 gl18 HG18
          obtain ⟨hx18_0, hf18_0⟩ := Kd.R_celln 0 HO_3.out (a0_0 : Int) p18 q18
          replace p18 := eq_true p18
          replace q18 := eq_true q18
          have HP23 := Kd.R_putg HO_3.out (a0_0 : Int) 0
          go_wp2_with (first | ((with_reducible refine gate_store (t := 3) (p := 29) rfl ?_); refine store_event (t := 3) (p := 29) (v := ?vo_w24) (w1 := (wr.setCell ⟨go18, (a0_0 : Int).toNat, none⟩ (.int .i64 0))) ?hg ?ho ?hn ?hr ?_; (case ho => rfl); (case hg => rfl); (case hn => rfl); (case hr => first | (go_simp; done) | (go_simp; rfl)); intro w24 hw; have hg : wr.grownBy w24 (some go18) := (by rw [hw]; exact HP23.2); have hp_ : Kd.R (Kd.int .i64) 3 w24 w.heap.size (fun _ => True) (.slice (some ⟨go18, 0, none⟩) x3_1.length co9) yBI := (by rw [hw, NyBI.out]; exact HP23.1); clear HP23; have n0_ := Am (hp_); have n1_ := Am (blk_grown (g := gbBD) (o := .cells #[.int .i64 a0_0, .int .i64 a0_1, .int .i64 a0_2, .slice A0_3 l0_3.length c0_3] 32 (0, 0)) (blk_up BKBD.out) hg (Kd.R_ne HO_3.out BKBD.out (by decide))); have n2_ := Am ((by rw [hw]; exact below_set (HB.out) GB18.out : Below w.heap.size w w24)); clear HO_3 BKBD HB; revert n0_ n1_ n2_; intro HO_3 BKBD HB; clear hg hw hp_; obtain ⟨hcz25_0, hcz25_1, hcz25_2, hcz25_3, hfz25_0, hfz25_1, hfz25_2, hfz25_3⟩ := blk4 BKBD.out) | ((with_reducible refine gate_dst (N := 33) rfl ?_); refine Kd.S_make (Kd.slice 3 (Kd.int .i64)) _ 58 rfl (N := 33) rfl 149 _ _ rfl ji19 rfl rfl Try.underlying149 (.slice none 0 0) 24 info58 rfl (by decide) (by omega) [] (ok := fun _ => True) (okp := fun _ => True) ⟨_, rfl, Kd.R_nil _ _ _ _ _⟩ (fun _ hk => hk) trivial ofd (Nat.le_trans (Nat.mul_le_mul_right _ (ofd : ji19.toNat ≤ 11728124029610)) (by omega)) (Below.refl _ _) (Nat.le_refl _) ?_; intro vBK w26 ho27 hb hg_ hnew_; clear hg_ hnew_; (first | rw [← NyBJ.out] at ho27 | (simp only [Int.reduceToNat] at ho27; rw [← NyBJ.out] at ho27)); have n0_ := Am (Kd.R_below (Kd.R_up HO_3.out) hb); have n1_ := Am (Kd.S_lower (Kd.S_new' ho27 (Kd.R_lt (Kd.R_up HO_3.out))) (below_size belS)); have n2_ := Am (blk_below (blk_up BKBD.out) hb); have n3_ := Am (below_step belS hb); clear HO_3 BKBD HB; revert n0_ n1_ n2_ n3_; intro HO_3 HOBL BKBD HB; clear hb ho27))
          go_loopg [6] k1 (fun kq v6 w' => ∃ (x5_2 : List (List Int)) (x6_2 : Int), v6 = .int .i64 x6_2 ∧ Aside0 (spec_sqFar.l1 kq yBI x5_2 x6_2 a0_0 a0_1 a0_2 l0_3 = some r) ∧ Aside0 (kq ≤ k1) ∧ Aside0 (Kd.R (Kd.int .i64) 3 w' w.heap.size (fun _ => True) (.slice (some ⟨go18, 0, none⟩) x3_1.length co9) yBI) ∧ Aside0 (Kd.S (Kd.slice 3 (Kd.int .i64)) 58 w' w.heap.size (fun k_ => some k_ ≠ ((.slice (some ⟨go18, 0, none⟩) x3_1.length co9) : Value).ownBlock) vBK x5_2) ∧ Aside0 (w'.heap[gbBD]? = some (.cells #[.int .i64 a0_0, .int .i64 a0_1, .int .i64 a0_2, (.slice A0_3 l0_3.length c0_3)] 32 (0, 0))) ∧ Aside0 (Below w.heap.size w w'))
          case atStart => exact ⟨(yBJ), (0), rfS, H', ⟨Nat.le_refl _⟩, ⟨by (try simp only [hl3_1]); (with_reducible repeat (first | apply Kd.R_alloc | apply Kd.R_drewN | apply Kd.R_drew)); exact HO_3.out⟩, ⟨by (try simp only [hl3_1]); (with_reducible repeat (first | apply Kd.S_alloc | apply Kd.S_drewN | apply Kd.S_drew)); exact Kd.S_mono HOBL.out (fun _ hk => hk.2)⟩, ⟨by (try simp only [hl3_1]); (with_reducible repeat (first | refine blk_drewN ?_ _ | refine blk_drew ?_ | refine blk_alloc ?_ _)); exact BKBD.out⟩, ⟨by exact belS⟩⟩
          case round =>
           clear H'
           try clear c3
           try clear c3b0
           try clear c3b1
           try clear c4
           try clear c4b0
           try clear c4b1
           try clear c10
           try clear c10b0
           try clear c16
           try clear c16b0
           try clear c17
           try clear c17b0
           try clear p18
           try clear q18
           try clear c20
           try clear c20b0
           try clear c20b1
           try clear c21
           try clear c21b0
           try clear c21b1
           try clear hcz22_0 hcz22_1 hcz22_2 hcz22_3
           try clear hcz25_0 hcz25_1 hcz25_2 hcz25_3
           try clear hcz6_0 hcz6_1 hcz6_2 hcz6_3
           try clear hfz22_0 hfz22_1 hfz22_2 hfz22_3
           try clear hfz25_0 hfz25_1 hfz25_2 hfz25_3
           try clear hfz6_0 hfz6_1 hfz6_2 hfz6_3
           try clear hx18_0
           try clear p18
           try clear q18
           obtain ⟨x5_2, x6_2, rfl, HA, HK2, HO_3, HO_5, BKBD, HB⟩ := hrel
           have hl3_2 := (Kd.R_reads' HO_3.out).1
           rw [hl3_2] at HO_3
           (try simp only [hl3_2])
           (try simp only [hl3_2] at BKBD)
           (try simp only [hl3_2] at HO_5)
           cases gk with
           | zero => exact absurd HA.out (by simp [spec_sqFar.l1])
           | succ k2 =>
            have H := HA.out
            clear HA
            simp only [spec_sqFar.l1] at H
            by_cases c28 : x6_2 < a0_0
            ·rw [if_pos c28] at H
             have c28b0 : decide (x6_2 < a0_0) = true := decide_eq_true c28
             clear c28
             have H' := Am H
             clear H
             obtain ⟨hcz29_0, hcz29_1, hcz29_2, hcz29_3, hfz29_0, hfz29_1, hfz29_2, hfz29_3⟩ := blk4 BKBD.out
             go_wp2
             go_loopg [7] k2 (fun kq v7 w' => ∃ (x5_3 : List (List Int)) (x7_3 : Int), v7 = .int .i64 x7_3 ∧ Aside0 (spec_sqFar.l2 kq yBI x5_3 x6_2 x7_3 a0_0 a0_1 a0_2 l0_3 = some r) ∧ Aside0 (kq ≤ k2) ∧ Aside0 (Kd.R (Kd.int .i64) 3 w' w.heap.size (fun _ => True) (.slice (some ⟨go18, 0, none⟩) yBI.length co9) yBI) ∧ Aside0 (Kd.S (Kd.slice 3 (Kd.int .i64)) 58 w' w.heap.size (fun k_ => some k_ ≠ ((.slice (some ⟨go18, 0, none⟩) yBI.length co9) : Value).ownBlock) vBK x5_3) ∧ Aside0 (w'.heap[gbBD]? = some (.cells #[.int .i64 a0_0, .int .i64 a0_1, .int .i64 a0_2, (.slice A0_3 l0_3.length c0_3)] 32 (0, 0))) ∧ Aside0 (Below w.heap.size w w'))
             case atStart => exact ⟨(x5_2), (1), rfS, H', ⟨Nat.le_refl _⟩, ⟨by (try simp only [hl3_1]); (try simp only [hl3_2]); (with_reducible repeat (first | apply Kd.R_alloc | apply Kd.R_drewN | apply Kd.R_drew)); exact HO_3.out⟩, ⟨by (try simp only [hl3_1]); (try simp only [hl3_2]); (with_reducible repeat (first | apply Kd.S_alloc | apply Kd.S_drewN | apply Kd.S_drew)); exact HO_5.out⟩, ⟨by (try simp only [hl3_1]); (try simp only [hl3_2]); (with_reducible repeat (first | refine blk_drewN ?_ _ | refine blk_drew ?_ | refine blk_alloc ?_ _)); exact BKBD.out⟩, ⟨by exact belS⟩⟩
             case round =>
              clear H'
              try clear c3
              try clear c3b0
              try clear c3b1
              try clear c4
              try clear c4b0
              try clear c4b1
              try clear c10
              try clear c10b0
              try clear c16
              try clear c16b0
              try clear c17
              try clear c17b0
              try clear p18
              try clear q18
              try clear c20
              try clear c20b0
              try clear c20b1
              try clear c21
              try clear c21b0
              try clear c21b1
              try clear c28
              try clear c28b0
              try clear hcz22_0 hcz22_1 hcz22_2 hcz22_3
              try clear hcz25_0 hcz25_1 hcz25_2 hcz25_3
              try clear hcz29_0 hcz29_1 hcz29_2 hcz29_3
              try clear hcz6_0 hcz6_1 hcz6_2 hcz6_3
              try clear hfz22_0 hfz22_1 hfz22_2 hfz22_3
              try clear hfz25_0 hfz25_1 hfz25_2 hfz25_3
              try clear hfz29_0 hfz29_1 hfz29_2 hfz29_3
              try clear hfz6_0 hfz6_1 hfz6_2 hfz6_3
              try clear hx18_0
              try clear p18
              try clear q18
              obtain ⟨x5_3, x7_3, rfl, HA, HK3, HO_3, HO_5, BKBD, HB⟩ := hrel
              cases gk with
              | zero => exact absurd HA.out (by simp [spec_sqFar.l2])
              | succ k3 =>
               have H := HA.out
               clear HA
               simp only [spec_sqFar.l2] at H
               by_cases c30 : x7_3 ≤ a0_1
               ·rw [if_pos c30] at H
                have c30b0 : decide (x7_3 ≤ a0_1) = true := decide_eq_true c30
                clear c30
                replace H := Option.bind_eq_some_iff.mp H
                obtain ⟨tBM, A310, H⟩ := H
                replace H : (if tBM = true then ((spec_sqThrow.f k3 a0_0 a0_1 a0_2 l0_3 x6_2 x7_3).bind fun tBN => (if 0 ≤ tBN then (if tBN < (x5_3.length : Int) then (if (rd_L3 x5_3 tBN).length < 17592186044416 then (spec_sqFar.l2 k3 yBI (x5_3.set (tBN : Int).toNat ((rd_L3 x5_3 tBN) ++ [x6_2])) x6_2 (wrap64 (x7_3 + 1)) a0_0 a0_1 a0_2 l0_3) else (none)) else (none)) else (none))) else (spec_sqFar.l1 k3 yBI x5_3 (wrap64 (x6_2 + 1)) a0_0 a0_1 a0_2 l0_3)) = some r := H
                have A31 := Am A310
                clear A310
                by_cases c32 : tBM = true
                ·subst c32
                 have H1 : ((spec_sqThrow.f k3 a0_0 a0_1 a0_2 l0_3 x6_2 x7_3).bind fun tBN => (if 0 ≤ tBN then (if tBN < (x5_3.length : Int) then (if (rd_L3 x5_3 tBN).length < 17592186044416 then (spec_sqFar.l2 k3 yBI (x5_3.set (tBN : Int).toNat ((rd_L3 x5_3 tBN) ++ [x6_2])) x6_2 (wrap64 (x7_3 + 1)) a0_0 a0_1 a0_2 l0_3) else (none)) else (none)) else (none))) = some r := by rw [if_pos rfl] at H; exact H
                 clear H
                 have H := H1
                 clear H1
                 replace H := Option.bind_eq_some_iff.mp H
                 obtain ⟨tBN, A330, H⟩ := H
                 replace H : (if 0 ≤ tBN then (if tBN < (x5_3.length : Int) then (if (rd_L3 x5_3 tBN).length < 17592186044416 then (spec_sqFar.l2 k3 yBI (x5_3.set (tBN : Int).toNat ((rd_L3 x5_3 tBN) ++ [x6_2])) x6_2 (wrap64 (x7_3 + 1)) a0_0 a0_1 a0_2 l0_3) else (none)) else (none)) else (none)) = some r := H
                 have A33 := Am A330
                 clear A330
                 by_cases c34 : 0 ≤ tBN
                 ·rw [if_pos c34] at H
                  have c34b0 : decide (0 ≤ tBN) = true := decide_eq_true c34
                  clear c34
                  by_cases c35 : tBN < (x5_3.length : Int)
                  ·rw [if_pos c35] at H
                   have c35b0 : decide (tBN < (x5_3.length : Int)) = true := decide_eq_true c35
                   (try (have c35b0z := c35b0; rw [hl3_1] at c35b0z))
                   (try (have c35b0z := c35b0; rw [hl3_2] at c35b0z))
                   clear c35
                   by_cases c36 : (rd_L3 x5_3 tBN).length < 17592186044416
                   ·rw [if_pos c36] at H
                    have LMc36 := Am c36
                    clear c36
                    obtain ⟨yBP, hyBP⟩ : ∃ y_ : List Int, y_ = ((rd_L3 x5_3 tBN) ++ [x6_2]) := ⟨_, rfl⟩
                    replace H : (spec_sqFar.l2 k3 yBI (x5_3.set (tBN : Int).toNat yBP) x6_2 (wrap64 (x7_3 + 1)) a0_0 a0_1 a0_2 l0_3) = some r := by first | (rw [hyBP]; with_reducible exact H) | (have H2_ := (Option.bind_some _ _).symm.trans H; rw [hyBP]; with_reducible exact H2_) | (have H2_ := (Option.bind_some _ _).symm.trans H; with_reducible exact H2_) | with_reducible exact H | (rw [hyBP]; exact H) | exact H
                    have NyBP := Am hyBP
                    clear hyBP
                    obtain ⟨yBS, hyBS⟩ : ∃ y_ : List (List Int), y_ = (x5_3.set (tBN : Int).toNat yBP) := ⟨_, rfl⟩
                    replace H : (spec_sqFar.l2 k3 yBI yBS x6_2 (wrap64 (x7_3 + 1)) a0_0 a0_1 a0_2 l0_3) = some r := by first | (rw [hyBS]; with_reducible exact H) | (have H2_ := (Option.bind_some _ _).symm.trans H; rw [hyBS]; with_reducible exact H2_) | (have H2_ := (Option.bind_some _ _).symm.trans H; with_reducible exact H2_) | with_reducible exact H | (rw [hyBS]; exact H) | exact H
                    have NyBS := Am hyBS
                    clear hyBS
                    have H' := Am H
                    clear H
                    obtain ⟨hcz38_0, hcz38_1, hcz38_2, hcz38_3, hfz38_0, hfz38_1, hfz38_2, hfz38_3⟩ := blk4 BKBD.out
                    go_wp2_with (first | (go_at_call 143; (with_reducible refine (spec_sqSquare.calls k3 a0_0 a0_1 a0_2 _ _ l0_3 x6_2 true _ ?side1 ?side2 A31.out).mono ?_); (case side1 => exact Kd.C_up (Kd.C_below HR0_3.out HB.out)); (case side2 => exact HC0_3.out); rintro e w39 ⟨rfl, hb⟩; have n0_ := Am (Kd.R_below (Kd.R_up HO_3.out) hb); have n1_ := Am (Kd.S_below (by (with_reducible repeat (first | apply Kd.S_alloc | apply Kd.S_drewN | apply Kd.S_drew)); exact HO_5.out) hb); have n2_ := Am (blk_below (blk_up BKBD.out) hb); have n3_ := Am (below_step belS hb); clear HO_3 HO_5 BKBD HB; revert n0_ n1_ n2_ n3_; intro HO_3 HO_5 BKBD HB; (try clear hb); obtain ⟨hcz40_0, hcz40_1, hcz40_2, hcz40_3, hfz40_0, hfz40_1, hfz40_2, hfz40_3⟩ := blk4 BKBD.out) | ((with_reducible refine gate_callee (f := 137) rfl ?_); refine goesL_ (some 54) rfl rfl Try.func137 (by kernel_rfl) rfl #[.agg #[.int .i64 a0_0, .int .i64 a0_1, .int .i64 a0_2, .slice A0_3 l0_3.length c0_3], .int .i64 x6_2, .int .i64 x7_3] rfl argS ?_; (with_reducible refine (spec_sqThrow.calls k3 a0_0 a0_1 a0_2 _ _ l0_3 x6_2 x7_3 tBN _ ?side1 ?side2 A33.out).mono ?_); (case side1 => exact Kd.C_up (Kd.C_below HR0_3.out HB.out)); (case side2 => exact HC0_3.out); rintro e w41 ⟨rfl, hb⟩; refine ⟨_, rfl, ?_⟩; have n0_ := Am (Kd.R_below (Kd.R_up HO_3.out) hb); have n1_ := Am (Kd.S_below (by (with_reducible repeat (first | apply Kd.S_alloc | apply Kd.S_drewN | apply Kd.S_drew)); exact HO_5.out) hb); have n2_ := Am (blk_below (blk_up BKBD.out) hb); have n3_ := Am (below_step belS hb); clear HO_3 HO_5 BKBD HB; revert n0_ n1_ n2_ n3_; intro HO_3 HO_5 BKBD HB; (try clear hb); obtain ⟨Ao42, co42, eo42⟩ := Kd.S_slice HO_5.out; subst eo42; have pBO : 0 ≤ (tBN : Int) := ofd; have qBO : tBN < (x5_3.length : Int) := ofd; obtain ⟨adBO, ABO_0, cBO_0, eBO, hxBO_0, hlBO_0, hiBO_0⟩ := at_L3 (Kd.S_reads' HO_5.out).2.2 tBN pBO qBO; cases eBO; obtain ⟨ceBO, hceBO, hMeBO, hccBO⟩ := Kd.S_get HO_5.out [] tBN pBO (by first | exact qBO | exact ofd | (have e_ := (Kd.S_reads' HO_5.out).1; omega)); obtain ⟨veBO_0, rfl, geBO_0⟩ := hMeBO; have hvBO_0 := hccBO 0 _ rfl; rw [Nat.add_zero, show ((Kd.slice 3 (Kd.int .i64))).sz = 1 from rfl, Nat.mul_one] at hvBO_0; replace hvBO_0 := Option.some.inj (hvBO_0.symm.trans hxBO_0); rw [hvBO_0] at geBO_0; have HLBO_0 := Am (show Kd.R (Kd.int .i64) 3 _ _ _ _ (rd_L3 x5_3 tBN) from geBO_0); clear hvBO_0 geBO_0; have HXBO_0 := Am hxBO_0; clear hccBO hceBO; have HRBO_0 := Am hiBO_0; have HCBO_0 := Am hlBO_0; clear hiBO_0 hlBO_0; replace pBO := eq_true pBO; replace qBO := eq_true qBO; obtain ⟨go43, co43, eo43, gb43, gl43, cl43, HG43⟩ := Kd.S_form HO_5.out (by have h_ : (tBN : Int) < ((x5_3.length : Int) : Int) := ofd; have h2_ : 0 ≤ (tBN : Int) := ofd; omega); (first | cases eo43 | (injection eo43 with ea_ en_ ec_; (first | subst ea_ | (injection ea_ with ea_; subst ea_)); subst ec_; clear en_)); have GB43 := Am gb43; have GG43 := Am HG43; clear gb43 gl43 HG43; (first | simp only [add_plain] at hxBO_0 | skip); obtain ⟨oki43, ce43, hcl43, hM43, hcc43, _, _, hH43⟩ := Kd.S_elem HO_5.out [] (tBN : Int) ofd (by have h_ : (tBN : Int) < ((x5_3.length : Int) : Int) := ofd; first | exact h_ | (have e_ := (Kd.S_reads' HO_5.out).1; omega) | simpa using h_); obtain ⟨ve43_0, rfl, ge43_0⟩ := hM43; have hv43 := hcc43 0 _ rfl; have hX43 := HXBO_0.out; (try simp only [add_plain] at hX43); (try simp only [Nat.add_zero] at hv43); (try rw [show ((Kd.slice 3 (Kd.int .i64))).sz = 1 from rfl, Nat.mul_one] at hv43); replace hv43 := Option.some.inj (hv43.symm.trans hX43); subst hv43; clear hX43 hcc43 hcl43; have UU43 := Am (show Kd.R (Kd.int .i64) 3 _ w.heap.size oki43 (.slice ABO_0 (rd_L3 x5_3 tBN).length cBO_0) (rd_L3 x5_3 tBN) from ge43_0); have HH43 := Am hH43; have HN43 := Am (Kd.S_reads' HO_5.out).1; clear hH43 ge43_0) | ((with_reducible refine gate_builtin (b := .append) (xs := #[.tmp 60, .tmp 62]) rfl ?_); at_builtin; refine Kd.R_append (Kd.int .i64) (w0 := w) w.heap.size rfl (.tmp 60) (.tmp 62) 58 3 (.int .i64 0) 8 rfl Try.underlying58 info3 rfl (by decide) (by omega) (.slice ABO_0 (rd_L3 x5_3 tBN).length cBO_0) (rd_L3 x5_3 tBN) x6_2 [.int .i64 x6_2] (fun k_ => oki43 k_ ∨ ((fun k_ => some k_ ≠ (.slice (some ⟨go18, 0, none⟩) yBI.length co9 : Value).ownBlock)) k_ ∧ w41.heap.size ≤ k_) (fun _ => False) rfl rfl ?aP (fun _ hk => hk.elim) ?aF ?aO ?aB ?aS ?aL ?_; (case aP => exact rfl); (case aB => exact belS); (case aF => exact (fun k_ hk => .inr ⟨Kd.fresh' (Kd.R_lt (Kd.R_up HO_3.out)) k_ hk, hk⟩)); (case aO => exact (by (with_reducible repeat (first | apply Kd.R_alloc | apply Kd.R_drewN | apply Kd.R_drew)); exact Kd.R_mono UU43.out (fun _ hk => .inl hk))); (case aS => exact (below_size belS)); (case aL => have := LMc36.out; omega); intro vBQ w44 ho hb hg hat; rw [← NyBP.out] at ho; have n0_ := Am (Kd.R_grown2 (Kd.R_up HO_3.out) rfl hg (fun k_ e_ => (HLBO_0.out.1 k_ e_).1)); have n1_ := Am (blk_grown (g := gbBD) (o := .cells #[.int .i64 a0_0, .int .i64 a0_1, .int .i64 a0_2, .slice A0_3 l0_3.length c0_3] 32 (0, 0)) (blk_up BKBD.out) hg (Kd.R_ne HLBO_0.out BKBD.out (by decide))); have n2_ := Am (hb); have n3_ := Am (Kd.H_grown (Kd.H_widen (by repeat (first | exact HH43.out | refine Kd.H_alloc ?_ _ | refine Kd.H_drewN ?_ _ | refine Kd.H_drew ?_))) hg (fun k_ e_ => .inl (UU43.out.1 k_ e_))); have n4_ := Am (ho); clear HO_3 BKBD HB HH43 HO_5 UU43 HLBO_0; revert n0_ n1_ n2_ n3_ n4_; intro HO_3 BKBD HB HH43 HOBR; clear ho hb hg hat; have p37 : 0 ≤ (tBN : Int) := ofd; have q37 : (tBN : Int) < ((x5_3.length : Int) : Int) := ofd; replace p37 := eq_true p37; replace q37 := eq_true q37; obtain ⟨Ao47, co47, eo47⟩ := Kd.R_slice HOBR.out; subst eo47; obtain ⟨_, _, hraw45, _, _, hcc45, _⟩ := Kd.H_raw HH43.out ofd (by have h_ : (tBN : Int) < ((x5_3.length : Int) : Int) := ofd; first | exact h_ | (have e_ := (HN43.out); omega) | simpa using h_); obtain ⟨_, hfr45⟩ := Kd.H_at HH43.out ofd (by have h_ : (tBN : Int) < ((x5_3.length : Int) : Int) := ofd; first | exact h_ | (have e_ := (HN43.out); omega) | simpa using h_); have hx45_0 := hcc45 0 _ rfl; have hf45_0 := hfr45 0; (try simp only [Nat.add_zero] at hx45_0 hf45_0); (try rw [show ((Kd.slice 3 (Kd.int .i64))).sz = 1 from rfl, Nat.mul_one] at hx45_0); (try rw [show ((Kd.slice 3 (Kd.int .i64))).sz = 1 from rfl, Nat.mul_one] at hf45_0); have HP45 := Kd.S_seg0 HH43.out ofd (by have h_ : (tBN : Int) < ((x5_3.length : Int) : Int) := ofd; first | exact h_ | (have e_ := (HN43.out); omega) | simpa using h_) (seg := [.slice Ao47 yBP.length co47]) (j := 0) (show 1 ≤ 1 from by decide) (x' := yBP) (Kd.M_row HOBR.out) (fun _ hk => hk); (try simp only [show ((Kd.slice 3 (Kd.int .i64))).sz = 1 from rfl, Nat.mul_one, Nat.add_zero] at HP45); clear hcc45 hfr45) | ((with_reducible refine gate_store (t := 58) (p := 64) rfl ?_); refine store_event (t := 58) (p := 64) (v := ?vo_w46) (w1 := (w44.setCell ⟨go43, (tBN : Int).toNat, none⟩ (.slice Ao47 yBP.length co47))) ?hg ?ho ?hn ?hr ?_; (case ho => rfl); (case hg => rfl); (case hn => rfl); (case hr => first | (go_simp; done) | (go_simp; rfl)); intro w46 hw; have hg : w44.grownBy w46 (some go43) := (by rw [hw]; exact HP45.2); have hp_ : Kd.S (Kd.slice 3 (Kd.int .i64)) 58 w46 w.heap.size (fun k_ => some k_ ≠ (.slice (some ⟨go18, 0, none⟩) yBI.length co9 : Value).ownBlock) (.slice (some ⟨go43, 0, none⟩) x5_3.length co42) yBS := (by rw [hw, NyBS.out]; exact HP45.1); clear HP45; have n0_ := Am (Kd.R_over' (v := (.slice (some ⟨go43, 0, none⟩) x5_3.length co42)) (Kd.R_up HO_3.out) (Kd.R_typed hraw45) (by decide) hg); have n1_ := Am (blk_grown (g := gbBD) (o := .cells #[.int .i64 a0_0, .int .i64 a0_1, .int .i64 a0_2, .slice A0_3 l0_3.length c0_3] 32 (0, 0)) (blk_up BKBD.out) hg (Kd.R_ne hraw45 BKBD.out (by decide))); have n2_ := Am ((by rw [hw]; exact below_set HB.out GB43.out : Below w.heap.size w w46)); have n3_ := Am (hp_); clear HO_3 BKBD HB HOBR HH43; revert n0_ n1_ n2_ n3_; intro HO_3 BKBD HB HO_5; clear hg hw hp_ hraw45))
                    go_roundg k3
                    case measure => have := HK1.out; have := HK2.out; have := HK3.out; omega
                    case rel => exact ⟨(yBS), (wrap64 (x7_3 + 1)), rfS, H', ⟨by have := HK1.out; have := HK2.out; have := HK3.out; omega⟩, ⟨by (try simp only [hl3_1]); (try simp only [hl3_2]); (with_reducible repeat (first | apply Kd.R_alloc | apply Kd.R_drewN | apply Kd.R_drew)); exact HO_3.out⟩, ⟨by (try simp only [hl3_1]); (try simp only [hl3_2]); (with_reducible repeat (first | apply Kd.S_alloc | apply Kd.S_drewN | apply Kd.S_drew)); exact HO_5.out⟩, ⟨by (try simp only [hl3_1]); (try simp only [hl3_2]); (with_reducible repeat (first | refine blk_drewN ?_ _ | refine blk_drew ?_ | refine blk_alloc ?_ _)); exact BKBD.out⟩, ⟨by exact belS⟩⟩
                   ·rw [if_neg c36] at H
                    exact absurd H (by simp)
                  ·rw [if_neg c35] at H
                   exact absurd H (by simp)
                 ·rw [if_neg c34] at H
                  exact absurd H (by simp)
                ·replace c32 := Bool.eq_false_iff.mpr c32
                 subst c32
                 have H1 : (spec_sqFar.l1 k3 yBI x5_3 (wrap64 (x6_2 + 1)) a0_0 a0_1 a0_2 l0_3) = some r := by rw [if_neg (show ¬ (false = true) by decide)] at H; exact H
                 clear H
                 have H := H1
                 clear H1
                 have H' := Am H
                 clear H
                 obtain ⟨hcz48_0, hcz48_1, hcz48_2, hcz48_3, hfz48_0, hfz48_1, hfz48_2, hfz48_3⟩ := blk4 BKBD.out
                 go_wp2_with (first | (go_at_call 143; (with_reducible refine (spec_sqSquare.calls k3 a0_0 a0_1 a0_2 _ _ l0_3 x6_2 false _ ?side1 ?side2 A31.out).mono ?_); (case side1 => exact Kd.C_up (Kd.C_below HR0_3.out HB.out)); (case side2 => exact HC0_3.out); rintro e w49 ⟨rfl, hb⟩; have n0_ := Am (Kd.R_below (Kd.R_up HO_3.out) hb); have n1_ := Am (Kd.S_below (by (with_reducible repeat (first | apply Kd.S_alloc | apply Kd.S_drewN | apply Kd.S_drew)); exact HO_5.out) hb); have n2_ := Am (blk_below (blk_up BKBD.out) hb); have n3_ := Am (below_step belS hb); clear HO_3 HO_5 BKBD HB; revert n0_ n1_ n2_ n3_; intro HO_3 HO_5 BKBD HB; (try clear hb); (try clear hb2); (try clear hk); (try clear hi)))
                 (try simp only [← hl3_2])
                 go_roundg k3
                 case measure => have := HK1.out; have := HK2.out; have := HK3.out; omega
                 case rel => exact ⟨(x5_3), (wrap64 (x6_2 + 1)), rfS, H', ⟨by have := HK1.out; have := HK2.out; have := HK3.out; omega⟩, ⟨by (try simp only [hl3_1]); (try simp only [hl3_2]); (with_reducible repeat (first | apply Kd.R_alloc | apply Kd.R_drewN | apply Kd.R_drew)); exact HO_3.out⟩, ⟨by (try simp only [hl3_1]); (try simp only [hl3_2]); (with_reducible repeat (first | apply Kd.S_alloc | apply Kd.S_drewN | apply Kd.S_drew)); exact HO_5.out⟩, ⟨by (try simp only [hl3_1]); (try simp only [hl3_2]); (with_reducible repeat (first | refine blk_drewN ?_ _ | refine blk_drew ?_ | refine blk_alloc ?_ _)); exact BKBD.out⟩, ⟨by exact belS⟩⟩
               ·rw [if_neg c30] at H
                have c30b0 : decide (x7_3 ≤ a0_1) = false := decide_eq_false c30
                clear c30
                have H' := Am H
                clear H
                obtain ⟨hcz50_0, hcz50_1, hcz50_2, hcz50_3, hfz50_0, hfz50_1, hfz50_2, hfz50_3⟩ := blk4 BKBD.out
                go_wp2
                (try simp only [← hl3_2])
                go_roundg k3
                case measure => have := HK1.out; have := HK2.out; have := HK3.out; omega
                case rel => exact ⟨(x5_3), (wrap64 (x6_2 + 1)), rfS, H', ⟨by have := HK1.out; have := HK2.out; have := HK3.out; omega⟩, ⟨by (try simp only [hl3_1]); (try simp only [hl3_2]); (with_reducible repeat (first | apply Kd.R_alloc | apply Kd.R_drewN | apply Kd.R_drew)); exact HO_3.out⟩, ⟨by (try simp only [hl3_1]); (try simp only [hl3_2]); (with_reducible repeat (first | apply Kd.S_alloc | apply Kd.S_drewN | apply Kd.S_drew)); exact HO_5.out⟩, ⟨by (try simp only [hl3_1]); (try simp only [hl3_2]); (with_reducible repeat (first | refine blk_drewN ?_ _ | refine blk_drew ?_ | refine blk_alloc ?_ _)); exact BKBD.out⟩, ⟨by exact belS⟩⟩
            ·rw [if_neg c28] at H
             have c28b0 : decide (x6_2 < a0_0) = false := decide_eq_false c28
             clear c28
             obtain ⟨yBT, hyBT⟩ : ∃ y_ : List Int, y_ = (([a0_0] : List Int)) := ⟨_, rfl⟩
             replace H : (spec_sqFar.l3 k2 yBI x5_2 yBT 0) = some r := by first | (rw [hyBT]; with_reducible exact H) | (have H2_ := (Option.bind_some _ _).symm.trans H; rw [hyBT]; with_reducible exact H2_) | (have H2_ := (Option.bind_some _ _).symm.trans H; with_reducible exact H2_) | with_reducible exact H | (rw [hyBT]; exact H) | exact H
             have NyBT := Am hyBT
             clear hyBT
             have H' := Am H
             clear H
             obtain ⟨hcz51_0, hcz51_1, hcz51_2, hcz51_3, hfz51_0, hfz51_1, hfz51_2, hfz51_3⟩ := blk4 BKBD.out
             go_wp2_with (first | ((with_reducible refine gate_dst (N := 67) rfl ?_); refine Kd.R_lit (Kd.int .i64) _ 3 ?hg (N := 67) ?hd (xs := ([a0_0] : List Int)) (inner := [.int .i64 a0_0]) (ok := fun _ => True) (okp := fun _ => True) ?hr ?hp (fun _ hk => hk) trivial (Below.refl _ _) (Nat.le_refl _) (by simp) ?_; (case hd => rfl); (case hg => rfl); (case hr => first | (go_simp; done) | (go_simp; rfl)); (case hp => exact (Reps.one (show Kd.M (Kd.int .i64) _ _ _ a0_0 [.int .i64 a0_0] from rfl) (Reps.none _ _))); intro vBU w52 ho53 hb hg_ hnew_; clear hg_ hnew_; (first | rw [← NyBT.out] at ho53 | (simp only [Int.reduceToNat] at ho53; rw [← NyBT.out] at ho53)); have n0_ := Am (Kd.R_elder' (Kd.R_up HO_3.out) (Kd.R_base ho53) hb); have n1_ := Am (Kd.S_elder' (by (with_reducible repeat (first | apply Kd.S_alloc | apply Kd.S_drewN | apply Kd.S_drew)); exact HO_5.out) (Kd.R_base ho53) hb); have n2_ := Am (Kd.R_lower (Kd.R_new' ho53 (Kd.R_lt (Kd.R_up HO_3.out))) (below_size belS)); have n3_ := Am (blk_below (blk_up BKBD.out) hb); have n4_ := Am (below_step belS hb); clear HO_3 HO_5 BKBD HB; revert n0_ n1_ n2_ n3_ n4_; intro HO_3 HO_5 HOBV BKBD HB; clear hb ho53))
             go_loopg [9, 10] k2 (fun kq v9 v10 w' => ∃ (x3_3 : List Int) (x9_3 : List Int) (x10_3 : Int), v10 = .int .i64 x10_3 ∧ Aside0 (spec_sqFar.l3 kq x3_3 x5_2 x9_3 x10_3 = some r) ∧ Aside0 (kq ≤ k2) ∧ Aside0 (Kd.R (Kd.int .i64) 3 w' w.heap.size (fun k_ => some k_ ≠ (v9 : Value).ownBlock) (.slice (some ⟨go18, 0, none⟩) yBI.length co9) x3_3) ∧ Aside0 (Kd.S (Kd.slice 3 (Kd.int .i64)) 58 w' w.heap.size (fun k_ => some k_ ≠ ((.slice (some ⟨go18, 0, none⟩) yBI.length co9) : Value).ownBlock ∧ some k_ ≠ (v9 : Value).ownBlock) vBK x5_2) ∧ Aside0 (Kd.R (Kd.int .i64) 3 w' w.heap.size (fun k_ => some k_ ≠ ((.slice (some ⟨go18, 0, none⟩) yBI.length co9) : Value).ownBlock) v9 x9_3) ∧ Aside0 (w'.heap[gbBD]? = some (.cells #[.int .i64 a0_0, .int .i64 a0_1, .int .i64 a0_2, (.slice A0_3 l0_3.length c0_3)] 32 (0, 0))) ∧ Aside0 (Below w.heap.size w w'))
             case atStart => exact ⟨(yBI), (yBT), (0), rfS, H', ⟨Nat.le_refl _⟩, ⟨by (try simp only [hl3_1]); (try simp only [hl3_2]); (with_reducible repeat (first | apply Kd.R_alloc | apply Kd.R_drewN | apply Kd.R_drew)); exact Kd.R_mono HO_3.out (fun _ hk => hk.2)⟩, ⟨by (try simp only [hl3_1]); (try simp only [hl3_2]); (with_reducible repeat (first | apply Kd.S_alloc | apply Kd.S_drewN | apply Kd.S_drew)); exact HO_5.out⟩, ⟨by (try simp only [hl3_1]); (try simp only [hl3_2]); (with_reducible repeat (first | apply Kd.R_alloc | apply Kd.R_drewN | apply Kd.R_drew)); exact Kd.R_mono HOBV.out (fun _ hk => hk.2)⟩, ⟨by (try simp only [hl3_1]); (try simp only [hl3_2]); (with_reducible repeat (first | refine blk_drewN ?_ _ | refine blk_drew ?_ | refine blk_alloc ?_ _)); exact BKBD.out⟩, ⟨by exact belS⟩⟩
             case round =>
              clear H'
              try clear c3
              try clear c3b0
              try clear c3b1
              try clear c4
              try clear c4b0
              try clear c4b1
              try clear c10
              try clear c10b0
              try clear c16
              try clear c16b0
              try clear c17
              try clear c17b0
              try clear p18
              try clear q18
              try clear c20
              try clear c20b0
              try clear c20b1
              try clear c21
              try clear c21b0
              try clear c21b1
              try clear c28
              try clear c28b0
              try clear hcz22_0 hcz22_1 hcz22_2 hcz22_3
              try clear hcz25_0 hcz25_1 hcz25_2 hcz25_3
              try clear hcz51_0 hcz51_1 hcz51_2 hcz51_3
              try clear hcz6_0 hcz6_1 hcz6_2 hcz6_3
              try clear hfz22_0 hfz22_1 hfz22_2 hfz22_3
              try clear hfz25_0 hfz25_1 hfz25_2 hfz25_3
              try clear hfz51_0 hfz51_1 hfz51_2 hfz51_3
              try clear hfz6_0 hfz6_1 hfz6_2 hfz6_3
              try clear hx18_0
              try clear p18
              try clear q18
              obtain ⟨x3_3, x9_3, x10_3, rfl, HA, HK3, HO_3, HO_5, HO_9, BKBD, HB⟩ := hrel
              have hl3_3 := (Kd.R_reads' HO_3.out).1
              rw [hl3_3] at HO_3
              (try simp only [hl3_3])
              (try simp only [hl3_3] at BKBD)
              (try simp only [hl3_3] at HO_5)
              (try simp only [hl3_3] at HO_9)
              cases gk with
              | zero => exact absurd HA.out (by simp [spec_sqFar.l3])
              | succ k3 =>
               have H := HA.out
               clear HA
               simp only [spec_sqFar.l3] at H
               by_cases c54 : x10_3 < (x9_3.length : Int)
               ·rw [if_pos c54] at H
                have c54b0 : decide (x10_3 < (x9_3.length : Int)) = true := decide_eq_true c54
                (try (have c54b0z := c54b0; rw [hl3_1] at c54b0z))
                (try (have c54b0z := c54b0; rw [hl3_2] at c54b0z))
                (try (have c54b0z := c54b0; rw [hl3_3] at c54b0z))
                clear c54
                by_cases c55 : 0 ≤ x10_3
                ·rw [if_pos c55] at H
                 have c55b0 : decide (0 ≤ x10_3) = true := decide_eq_true c55
                 clear c55
                 by_cases c56 : 0 ≤ (rd x9_3 x10_3)
                 ·rw [if_pos c56] at H
                  have c56b0 : decide (0 ≤ (rd x9_3 x10_3)) = true := decide_eq_true c56
                  clear c56
                  by_cases c57 : (rd x9_3 x10_3) < (x5_2.length : Int)
                  ·rw [if_pos c57] at H
                   have c57b0 : decide ((rd x9_3 x10_3) < (x5_2.length : Int)) = true := decide_eq_true c57
                   (try (have c57b0z := c57b0; rw [hl3_1] at c57b0z))
                   (try (have c57b0z := c57b0; rw [hl3_2] at c57b0z))
                   (try (have c57b0z := c57b0; rw [hl3_3] at c57b0z))
                   clear c57
                   have H' := Am H
                   clear H
                   obtain ⟨Ao58, co58, eo58⟩ := Kd.R_slice HO_9.out
                   subst eo58
                   have pBW : 0 ≤ (x10_3 : Int) := ofd
                   have qBW : x10_3 < (x9_3.length : Int) := ofd
                   obtain ⟨adBW, eBW, hxBW_0⟩ := Kd.at_int (Kd.R_reads' HO_9.out).2.2 x10_3 pBW qBW
                   cases eBW
                   replace pBW := eq_true pBW
                   replace qBW := eq_true qBW
                   obtain ⟨Ao59, co59, eo59⟩ := Kd.S_slice HO_5.out
                   subst eo59
                   have pBX : 0 ≤ ((rd x9_3 x10_3) : Int) := ofd
                   have qBX : (rd x9_3 x10_3) < (x5_2.length : Int) := ofd
                   obtain ⟨adBX, ABX_0, cBX_0, eBX, hxBX_0, hlBX_0, hiBX_0⟩ := at_L3 (Kd.S_reads' HO_5.out).2.2 (rd x9_3 x10_3) pBX qBX
                   cases eBX
                   obtain ⟨ceBX, hceBX, hMeBX, hccBX⟩ := Kd.S_get HO_5.out [] (rd x9_3 x10_3) pBX (by first | exact qBX | exact ofd | (have e_ := (Kd.S_reads' HO_5.out).1; omega))
                   obtain ⟨veBX_0, rfl, geBX_0⟩ := hMeBX
                   have hvBX_0 := hccBX 0 _ rfl
                   rw [Nat.add_zero, show ((Kd.slice 3 (Kd.int .i64))).sz = 1 from rfl, Nat.mul_one] at hvBX_0
                   replace hvBX_0 := Option.some.inj (hvBX_0.symm.trans hxBX_0)
                   rw [hvBX_0] at geBX_0
                   have HLBX_0 := Am (show Kd.R (Kd.int .i64) 3 _ _ _ _ (rd_L3 x5_2 (rd x9_3 x10_3)) from geBX_0)
                   clear hvBX_0 geBX_0
                   have HXBX_0 := Am hxBX_0
                   clear hccBX hceBX
                   have HRBX_0 := Am hiBX_0
                   have HCBX_0 := Am hlBX_0
                   clear hiBX_0 hlBX_0
                   replace pBX := eq_true pBX
                   replace qBX := eq_true qBX
                   go_wp2
                   go_loopg [9, 82] k3 (fun kq v9 v82 w' => ∃ (x3_4 : List Int) (x9_4 : List Int) (x82_4 : Int), v82 = .int .i64 x82_4 ∧ Aside0 (spec_sqFar.l4 kq x3_4 x5_2 x9_4 x10_3 (rd_L3 x5_2 (rd x9_3 x10_3)) ((rd_L3 x5_2 (rd x9_3 x10_3)).length : Int) x82_4 = some r) ∧ Aside0 (kq ≤ k3) ∧ Aside0 (Kd.R (Kd.int .i64) 3 w' w.heap.size (fun k_ => some k_ ≠ (v9 : Value).ownBlock) (.slice (some ⟨go18, 0, none⟩) x3_3.length co9) x3_4) ∧ Aside0 (Kd.S (Kd.slice 3 (Kd.int .i64)) 58 w' w.heap.size (fun k_ => some k_ ≠ ((.slice (some ⟨go18, 0, none⟩) x3_3.length co9) : Value).ownBlock ∧ some k_ ≠ (v9 : Value).ownBlock) (.slice (some adBX) x5_2.length co59) x5_2) ∧ Aside0 (Kd.R (Kd.int .i64) 3 w' w.heap.size (fun k_ => some k_ ≠ ((.slice (some ⟨go18, 0, none⟩) x3_3.length co9) : Value).ownBlock ∧ some k_ ≠ (v9 : Value).ownBlock) (.slice ABX_0 (rd_L3 x5_2 (rd x9_3 x10_3)).length cBX_0) (rd_L3 x5_2 (rd x9_3 x10_3))) ∧ Aside0 (Kd.R (Kd.int .i64) 3 w' w.heap.size (fun k_ => some k_ ≠ ((.slice (some ⟨go18, 0, none⟩) x3_3.length co9) : Value).ownBlock) v9 x9_4) ∧ Aside0 (w'.heap[gbBD]? = some (.cells #[.int .i64 a0_0, .int .i64 a0_1, .int .i64 a0_2, (.slice A0_3 l0_3.length c0_3)] 32 (0, 0))) ∧ Aside0 (Below w.heap.size w w'))
                   case atStart => exact ⟨(x3_3), (x9_3), (0), rfS, H', ⟨Nat.le_refl _⟩, ⟨by (try simp only [hl3_1]); (try simp only [hl3_2]); (try simp only [hl3_3]); (with_reducible repeat (first | apply Kd.R_alloc | apply Kd.R_drewN | apply Kd.R_drew)); exact HO_3.out⟩, ⟨by (try simp only [hl3_1]); (try simp only [hl3_2]); (try simp only [hl3_3]); (with_reducible repeat (first | apply Kd.S_alloc | apply Kd.S_drewN | apply Kd.S_drew)); exact HO_5.out⟩, ⟨by (try simp only [hl3_1]); (try simp only [hl3_2]); (try simp only [hl3_3]); exact Kd.R_mono HLBX_0.out (fun _ hk => hk.1)⟩, ⟨by (try simp only [hl3_1]); (try simp only [hl3_2]); (try simp only [hl3_3]); (with_reducible repeat (first | apply Kd.R_alloc | apply Kd.R_drewN | apply Kd.R_drew)); exact HO_9.out⟩, ⟨by (try simp only [hl3_1]); (try simp only [hl3_2]); (try simp only [hl3_3]); (with_reducible repeat (first | refine blk_drewN ?_ _ | refine blk_drew ?_ | refine blk_alloc ?_ _)); exact BKBD.out⟩, ⟨by exact belS⟩⟩
                   case round =>
                    clear H'
                    try clear c3
                    try clear c3b0
                    try clear c3b1
                    try clear c4
                    try clear c4b0
                    try clear c4b1
                    try clear c10
                    try clear c10b0
                    try clear c16
                    try clear c16b0
                    try clear c17
                    try clear c17b0
                    try clear p18
                    try clear q18
                    try clear c20
                    try clear c20b0
                    try clear c20b1
                    try clear c21
                    try clear c21b0
                    try clear c21b1
                    try clear c28
                    try clear c28b0
                    try clear c54
                    try clear c54b0
                    try clear c55
                    try clear c55b0
                    try clear c56
                    try clear c56b0
                    try clear c57
                    try clear c57b0
                    try clear hcz22_0 hcz22_1 hcz22_2 hcz22_3
                    try clear hcz25_0 hcz25_1 hcz25_2 hcz25_3
                    try clear hcz51_0 hcz51_1 hcz51_2 hcz51_3
                    try clear hcz6_0 hcz6_1 hcz6_2 hcz6_3
                    try clear hfz22_0 hfz22_1 hfz22_2 hfz22_3
                    try clear hfz25_0 hfz25_1 hfz25_2 hfz25_3
                    try clear hfz51_0 hfz51_1 hfz51_2 hfz51_3
                    try clear hfz6_0 hfz6_1 hfz6_2 hfz6_3
                    try clear hx18_0
                    try clear hxBW_0
                    try clear hxBX_0
                    try clear p18
                    try clear pBW
                    try clear pBX
                    try clear q18
                    try clear qBW
                    try clear qBX
                    obtain ⟨x3_4, x9_4, x82_4, rfl, HA, HK4, HO_3, HO_5, HOX, HO_9, BKBD, HB⟩ := hrel
                    have hl3_4 := (Kd.R_reads' HO_3.out).1
                    rw [hl3_4] at HO_3
                    (try simp only [hl3_4])
                    (try simp only [hl3_4] at BKBD)
                    (try simp only [hl3_4] at HO_5)
                    (try simp only [hl3_4] at HOX)
                    (try simp only [hl3_4] at HO_9)
                    cases gk with
                    | zero => exact absurd HA.out (by simp [spec_sqFar.l4])
                    | succ k4 =>
                     have H := HA.out
                     clear HA
                     simp only [spec_sqFar.l4] at H
                     by_cases c60 : x82_4 < ((rd_L3 x5_2 (rd x9_3 x10_3)).length : Int)
                     ·rw [if_pos c60] at H
                      have c60b0 : decide (x82_4 < ((rd_L3 x5_2 (rd x9_3 x10_3)).length : Int)) = true := decide_eq_true c60
                      (try (have c60b0z := c60b0; rw [hl3_1] at c60b0z))
                      (try (have c60b0z := c60b0; rw [hl3_2] at c60b0z))
                      (try (have c60b0z := c60b0; rw [hl3_3] at c60b0z))
                      (try (have c60b0z := c60b0; rw [hl3_4] at c60b0z))
                      clear c60
                      by_cases c61 : 0 ≤ x82_4
                      ·rw [if_pos c61] at H
                       have c61b0 : decide (0 ≤ x82_4) = true := decide_eq_true c61
                       clear c61
                       by_cases c62 : x82_4 < ((rd_L3 x5_2 (rd x9_3 x10_3)).length : Int)
                       ·rw [if_pos c62] at H
                        have c62b0 : decide (x82_4 < ((rd_L3 x5_2 (rd x9_3 x10_3)).length : Int)) = true := decide_eq_true c62
                        (try (have c62b0z := c62b0; rw [hl3_1] at c62b0z))
                        (try (have c62b0z := c62b0; rw [hl3_2] at c62b0z))
                        (try (have c62b0z := c62b0; rw [hl3_3] at c62b0z))
                        (try (have c62b0z := c62b0; rw [hl3_4] at c62b0z))
                        clear c62
                        by_cases c63 : 0 ≤ (rd (rd_L3 x5_2 (rd x9_3 x10_3)) x82_4)
                        ·rw [if_pos c63] at H
                         have c63b0 : decide (0 ≤ (rd (rd_L3 x5_2 (rd x9_3 x10_3)) x82_4)) = true := decide_eq_true c63
                         clear c63
                         by_cases c64 : (rd (rd_L3 x5_2 (rd x9_3 x10_3)) x82_4) < (x3_4.length : Int)
                         ·rw [if_pos c64] at H
                          have c64b0 : decide ((rd (rd_L3 x5_2 (rd x9_3 x10_3)) x82_4) < (x3_4.length : Int)) = true := decide_eq_true c64
                          (try (have c64b0z := c64b0; rw [hl3_1] at c64b0z))
                          (try (have c64b0z := c64b0; rw [hl3_2] at c64b0z))
                          (try (have c64b0z := c64b0; rw [hl3_3] at c64b0z))
                          (try (have c64b0z := c64b0; rw [hl3_4] at c64b0z))
                          clear c64
                          by_cases c65 : (rd x3_4 (rd (rd_L3 x5_2 (rd x9_3 x10_3)) x82_4)) < 0
                          ·rw [if_pos c65] at H
                           have c65b0 : decide ((rd x3_4 (rd (rd_L3 x5_2 (rd x9_3 x10_3)) x82_4)) < 0) = true := decide_eq_true c65
                           clear c65
                           by_cases c66 : 0 ≤ x10_3
                           ·rw [if_pos c66] at H
                            have c66b0 : decide (0 ≤ x10_3) = true := decide_eq_true c66
                            clear c66
                            by_cases c67 : x10_3 < (x9_4.length : Int)
                            ·rw [if_pos c67] at H
                             have c67b0 : decide (x10_3 < (x9_4.length : Int)) = true := decide_eq_true c67
                             (try (have c67b0z := c67b0; rw [hl3_1] at c67b0z))
                             (try (have c67b0z := c67b0; rw [hl3_2] at c67b0z))
                             (try (have c67b0z := c67b0; rw [hl3_3] at c67b0z))
                             (try (have c67b0z := c67b0; rw [hl3_4] at c67b0z))
                             clear c67
                             by_cases c68 : 0 ≤ (rd x9_4 x10_3)
                             ·rw [if_pos c68] at H
                              have c68b0 : decide (0 ≤ (rd x9_4 x10_3)) = true := decide_eq_true c68
                              clear c68
                              by_cases c69 : (rd x9_4 x10_3) < (x3_4.length : Int)
                              ·rw [if_pos c69] at H
                               have c69b0 : decide ((rd x9_4 x10_3) < (x3_4.length : Int)) = true := decide_eq_true c69
                               (try (have c69b0z := c69b0; rw [hl3_1] at c69b0z))
                               (try (have c69b0z := c69b0; rw [hl3_2] at c69b0z))
                               (try (have c69b0z := c69b0; rw [hl3_3] at c69b0z))
                               (try (have c69b0z := c69b0; rw [hl3_4] at c69b0z))
                               clear c69
                               obtain ⟨yC2, hyC2⟩ : ∃ y_ : List Int, y_ = (x3_4.set ((rd (rd_L3 x5_2 (rd x9_3 x10_3)) x82_4) : Int).toNat (wrap64 ((rd x3_4 (rd x9_4 x10_3)) + 1))) := ⟨_, rfl⟩
                               replace H : (if x9_4.length < 17592186044416 then (spec_sqFar.l4 k4 yC2 x5_2 (x9_4 ++ [rd (rd_L3 x5_2 (rd x9_3 x10_3)) x82_4]) x10_3 (rd_L3 x5_2 (rd x9_3 x10_3)) ((rd_L3 x5_2 (rd x9_3 x10_3)).length : Int) (wrap64 (x82_4 + 1))) else (none)) = some r := by first | (rw [hyC2]; with_reducible exact H) | (have H2_ := (Option.bind_some _ _).symm.trans H; rw [hyC2]; with_reducible exact H2_) | (have H2_ := (Option.bind_some _ _).symm.trans H; with_reducible exact H2_) | with_reducible exact H | (rw [hyC2]; exact H) | exact H
                               have NyC2 := Am hyC2
                               clear hyC2
                               by_cases c71 : x9_4.length < 17592186044416
                               ·rw [if_pos c71] at H
                                have LMc71 := Am c71
                                clear c71
                                obtain ⟨yC3, hyC3⟩ : ∃ y_ : List Int, y_ = (x9_4 ++ [rd (rd_L3 x5_2 (rd x9_3 x10_3)) x82_4]) := ⟨_, rfl⟩
                                replace H : (spec_sqFar.l4 k4 yC2 x5_2 yC3 x10_3 (rd_L3 x5_2 (rd x9_3 x10_3)) ((rd_L3 x5_2 (rd x9_3 x10_3)).length : Int) (wrap64 (x82_4 + 1))) = some r := by first | (rw [hyC3]; with_reducible exact H) | (have H2_ := (Option.bind_some _ _).symm.trans H; rw [hyC3]; with_reducible exact H2_) | (have H2_ := (Option.bind_some _ _).symm.trans H; with_reducible exact H2_) | with_reducible exact H | (rw [hyC3]; exact H) | exact H
                                have NyC3 := Am hyC3
                                clear hyC3
                                have H' := Am H
                                clear H
                                have pBY : 0 ≤ (x82_4 : Int) := ofd
                                have qBY : x82_4 < ((rd_L3 x5_2 (rd x9_3 x10_3)).length : Int) := ofd
                                obtain ⟨adBY, eBY, hxBY_0⟩ := Kd.at_int (Kd.R_reads' HOX.out).2.2 x82_4 pBY qBY
                                cases eBY
                                first | (replace hxBY_0 := (HB.out.cell (World.block_lt_of_cell? w _ hxBY_0)).trans hxBY_0) | skip
                                replace pBY := eq_true pBY
                                replace qBY := eq_true qBY
                                have pBZ : 0 ≤ ((rd (rd_L3 x5_2 (rd x9_3 x10_3)) x82_4) : Int) := ofd
                                have qBZ : (rd (rd_L3 x5_2 (rd x9_3 x10_3)) x82_4) < (x3_4.length : Int) := ofd
                                obtain ⟨adBZ, eBZ, hxBZ_0⟩ := Kd.at_int (Kd.R_reads' HO_3.out).2.2 (rd (rd_L3 x5_2 (rd x9_3 x10_3)) x82_4) pBZ qBZ
                                obtain rfl : (⟨go18, 0, none⟩ : Addr) = adBZ := (by injection eBZ)
                                (first | simp only [add_plain] at hxBZ_0 | simp only [add_at] at hxBZ_0 | simp only [Addr.add, Nat.zero_add] at hxBZ_0 | skip)
                                replace pBZ := eq_true pBZ
                                replace qBZ := eq_true qBZ
                                obtain ⟨Ao72, co72, eo72⟩ := Kd.R_slice HO_9.out
                                subst eo72
                                have pC0 : 0 ≤ (x10_3 : Int) := ofd
                                have qC0 : x10_3 < (x9_4.length : Int) := ofd
                                obtain ⟨adC0, eC0, hxC0_0⟩ := Kd.at_int (Kd.R_reads' HO_9.out).2.2 x10_3 pC0 qC0
                                cases eC0
                                replace pC0 := eq_true pC0
                                replace qC0 := eq_true qC0
                                have pC1 : 0 ≤ ((rd x9_4 x10_3) : Int) := ofd
                                have qC1 : (rd x9_4 x10_3) < (x3_4.length : Int) := ofd
                                obtain ⟨adC1, eC1, hxC1_0⟩ := Kd.at_int (Kd.R_reads' HO_3.out).2.2 (rd x9_4 x10_3) pC1 qC1
                                obtain rfl : (⟨go18, 0, none⟩ : Addr) = adC1 := (by injection eC1)
                                (first | simp only [add_plain] at hxC1_0 | simp only [add_at] at hxC1_0 | simp only [Addr.add, Nat.zero_add] at hxC1_0 | skip)
                                replace pC1 := eq_true pC1
                                replace qC1 := eq_true qC1
                                have p70 : 0 ≤ ((rd (rd_L3 x5_2 (rd x9_3 x10_3)) x82_4) : Int) := ofd
                                have q70 : ((rd (rd_L3 x5_2 (rd x9_3 x10_3)) x82_4) : Int) < ((x3_4.length : Int) : Int) := ofd
                                obtain ⟨hx70_0, hf70_0⟩ := Kd.R_celln 0 HO_3.out ((rd (rd_L3 x5_2 (rd x9_3 x10_3)) x82_4) : Int) p70 q70
                                replace p70 := eq_true p70
                                replace q70 := eq_true q70
                                have HP73 := Kd.R_putg HO_3.out ((rd (rd_L3 x5_2 (rd x9_3 x10_3)) x82_4) : Int) (wrap64 ((rd x3_4 (rd x9_4 x10_3)) + 1))
                                go_wp2_with (first | ((with_reducible refine gate_store (t := 3) (p := 101) rfl ?_); refine store_event (t := 3) (p := 101) (v := ?vo_w74) (w1 := (wr.setCell ⟨go18, ((rd (rd_L3 x5_2 (rd x9_3 x10_3)) x82_4) : Int).toNat, none⟩ (.int .i64 (wrap64 ((rd x3_4 (rd x9_4 x10_3)) + 1))))) ?hg ?ho ?hn ?hr ?_; (case ho => rfl); (case hg => rfl); (case hn => rfl); (case hr => first | (go_simp; done) | (go_simp; rfl)); intro w74 hw; have hg : wr.grownBy w74 (some go18) := (by rw [hw]; exact HP73.2); have hp_ : Kd.R (Kd.int .i64) 3 w74 w.heap.size (fun k_ => some k_ ≠ (.slice (some adC0) x9_4.length co72 : Value).ownBlock) (.slice (some ⟨go18, 0, none⟩) x3_4.length co9) yC2 := (by rw [hw, NyC2.out]; exact HP73.1); clear HP73; have n0_ := Am (hp_); have n1_ := Am (Kd.S_after (v := (.slice (some ⟨go18, 0, none⟩) x3_4.length co9)) (v1 := (.slice (some ⟨go18, 0, none⟩) x3_4.length co9)) (ok := (fun k_ => some k_ ≠ (.slice (some adC0) x9_4.length co72 : Value).ownBlock)) (by (with_reducible repeat (first | apply Kd.S_alloc | apply Kd.S_drewN | apply Kd.S_drew)); exact Kd.S_mono HO_5.out (fun _ hk => ⟨hk.2, hk.1⟩)) hg (.inl rfl)); have nXn1_ := Am (Kd.R_after (v := (.slice (some ⟨go18, 0, none⟩) x3_4.length co9)) (v1 := (.slice (some ⟨go18, 0, none⟩) x3_4.length co9)) (ok := (fun k_ => some k_ ≠ (.slice (some adC0) x9_4.length co72 : Value).ownBlock)) (by (with_reducible repeat (first | apply Kd.R_alloc | apply Kd.R_drewN | apply Kd.R_drew)); exact Kd.R_mono HOX.out (fun _ hk => ⟨hk.2, hk.1⟩)) hg (.inl rfl)); have n2_ := Am (Kd.R_after (v := (.slice (some ⟨go18, 0, none⟩) x3_4.length co9)) (v1 := (.slice (some ⟨go18, 0, none⟩) x3_4.length co9)) (ok := (fun _ => True)) (by (with_reducible repeat (first | apply Kd.R_alloc | apply Kd.R_drewN | apply Kd.R_drew)); exact Kd.R_mono HO_9.out (fun _ hk => ⟨trivial, hk⟩)) hg (.inl rfl)); have n3_ := Am (blk_grown (g := gbBD) (o := .cells #[.int .i64 a0_0, .int .i64 a0_1, .int .i64 a0_2, .slice A0_3 l0_3.length c0_3] 32 (0, 0)) (blk_up BKBD.out) hg (Kd.R_ne HO_3.out BKBD.out (by decide))); have n4_ := Am ((by rw [hw]; exact below_set (HB.out) GB18.out : Below w.heap.size w w74)); clear HO_3 HO_5 HOX HO_9 BKBD HB; have HO_3 := n0_; have HO_5 := n1_; have HOX := nXn1_; have HO_9 := n2_; have BKBD := n3_; have HB := n4_; clear n0_ n1_ nXn1_ n2_ n3_ n4_; clear hg hw hp_) | ((with_reducible refine gate_builtin (b := .append) (xs := #[.tmp 102, .tmp 104]) rfl ?_); at_builtin; refine Kd.R_append (Kd.int .i64) (w0 := w) w.heap.size rfl (.tmp 102) (.tmp 104) 58 3 (.int .i64 0) 8 rfl Try.underlying58 info3 rfl (by decide) (by omega) (.slice (some adC0) x9_4.length co72) x9_4 (rd (rd_L3 x5_2 (rd x9_3 x10_3)) x82_4) [.int .i64 (rd (rd_L3 x5_2 (rd x9_3 x10_3)) x82_4)] (fun k_ => some k_ ≠ (.slice (some ⟨go18, 0, none⟩) x3_4.length co9 : Value).ownBlock) (fun _ => False) rfl rfl ?aP (fun _ hk => hk.elim) ?aF ?aO ?aB ?aS ?aL ?_; (case aP => exact rfl); (case aB => exact belS); (case aF => exact (fun k_ hk => Kd.fresh' (Kd.R_lt (Kd.R_up HO_3.out)) k_ hk)); (case aO => exact (by (with_reducible repeat (first | apply Kd.R_alloc | apply Kd.R_drewN | apply Kd.R_drew)); exact Kd.R_mono HO_9.out (fun _ hk => hk.2))); (case aS => exact (below_size belS)); (case aL => have := LMc71.out; omega); intro vC4 w75 ho hb hg hat; rw [← NyC3.out] at ho; have n0_ := Am (Kd.R_after (ok := (fun _ => True)) (by (with_reducible repeat (first | apply Kd.R_alloc | apply Kd.R_drewN | apply Kd.R_drew)); exact Kd.R_mono HO_3.out (fun _ hk => ⟨trivial, hk⟩)) hg hat); have n1_ := Am (Kd.S_after (ok := (fun k_ => some k_ ≠ (.slice (some ⟨go18, 0, none⟩) x3_4.length co9 : Value).ownBlock)) (by (with_reducible repeat (first | apply Kd.S_alloc | apply Kd.S_drewN | apply Kd.S_drew)); exact Kd.S_mono HO_5.out (fun _ hk => ⟨hk.2, hk.1⟩)) hg hat); have nXn1_ := Am (Kd.R_after (ok := (fun k_ => some k_ ≠ (.slice (some ⟨go18, 0, none⟩) x3_4.length co9 : Value).ownBlock)) (by (with_reducible repeat (first | apply Kd.R_alloc | apply Kd.R_drewN | apply Kd.R_drew)); exact Kd.R_mono HOX.out (fun _ hk => ⟨hk.2, hk.1⟩)) hg hat); have n2_ := Am (blk_grown (g := gbBD) (o := .cells #[.int .i64 a0_0, .int .i64 a0_1, .int .i64 a0_2, .slice A0_3 l0_3.length c0_3] 32 (0, 0)) (blk_up BKBD.out) hg (Kd.R_ne HO_9.out BKBD.out (by decide))); have n3_ := Am (hb); have n4_ := Am (ho); clear HO_3 HO_5 HOX BKBD HB HO_9; have HO_3 := n0_; have HO_5 := n1_; have HOX := nXn1_; have BKBD := n2_; have HB := n3_; have HOC5 := n4_; clear n0_ n1_ nXn1_ n2_ n3_ n4_; clear ho hb hg hat))
                                (try simp only [← hl3_4])
                                go_roundg k4
                                case measure => have := HK1.out; have := HK2.out; have := HK3.out; have := HK4.out; omega
                                case rel => exact ⟨(yC2), (yC3), (wrap64 (x82_4 + 1)), rfS, H', ⟨by have := HK1.out; have := HK2.out; have := HK3.out; have := HK4.out; omega⟩, ⟨by (try simp only [hl3_1]); (try simp only [hl3_2]); (try simp only [hl3_3]); (try simp only [hl3_4]); (with_reducible repeat (first | apply Kd.R_alloc | apply Kd.R_drewN | apply Kd.R_drew)); exact Kd.R_mono HO_3.out (fun _ hk => hk.2)⟩, ⟨by (try simp only [hl3_1]); (try simp only [hl3_2]); (try simp only [hl3_3]); (try simp only [hl3_4]); (with_reducible repeat (first | apply Kd.S_alloc | apply Kd.S_drewN | apply Kd.S_drew)); exact HO_5.out⟩, ⟨by (try simp only [hl3_1]); (try simp only [hl3_2]); (try simp only [hl3_3]); (try simp only [hl3_4]); (with_reducible repeat (first | apply Kd.R_alloc | apply Kd.R_drewN | apply Kd.R_drew)); exact HOX.out⟩, ⟨by (try simp only [hl3_1]); (try simp only [hl3_2]); (try simp only [hl3_3]); (try simp only [hl3_4]); (with_reducible repeat (first | apply Kd.R_alloc | apply Kd.R_drewN | apply Kd.R_drew)); exact HOC5.out⟩, ⟨by (try simp only [hl3_1]); (try simp only [hl3_2]); (try simp only [hl3_3]); (try simp only [hl3_4]); (with_reducible repeat (first | refine blk_drewN ?_ _ | refine blk_drew ?_ | refine blk_alloc ?_ _)); exact BKBD.out⟩, ⟨by exact belS⟩⟩
                               ·rw [if_neg c71] at H
                                exact absurd H (by simp)
                              ·rw [if_neg c69] at H
                               exact absurd H (by simp)
                             ·rw [if_neg c68] at H
                              exact absurd H (by simp)
                            ·rw [if_neg c67] at H
                             exact absurd H (by simp)
                           ·rw [if_neg c66] at H
                            exact absurd H (by simp)
                          ·rw [if_neg c65] at H
                           have c65b0 : decide ((rd x3_4 (rd (rd_L3 x5_2 (rd x9_3 x10_3)) x82_4)) < 0) = false := decide_eq_false c65
                           clear c65
                           have H' := Am H
                           clear H
                           have pBY : 0 ≤ (x82_4 : Int) := ofd
                           have qBY : x82_4 < ((rd_L3 x5_2 (rd x9_3 x10_3)).length : Int) := ofd
                           obtain ⟨adBY, eBY, hxBY_0⟩ := Kd.at_int (Kd.R_reads' HOX.out).2.2 x82_4 pBY qBY
                           cases eBY
                           first | (replace hxBY_0 := (HB.out.cell (World.block_lt_of_cell? w _ hxBY_0)).trans hxBY_0) | skip
                           replace pBY := eq_true pBY
                           replace qBY := eq_true qBY
                           have pBZ : 0 ≤ ((rd (rd_L3 x5_2 (rd x9_3 x10_3)) x82_4) : Int) := ofd
                           have qBZ : (rd (rd_L3 x5_2 (rd x9_3 x10_3)) x82_4) < (x3_4.length : Int) := ofd
                           obtain ⟨adBZ, eBZ, hxBZ_0⟩ := Kd.at_int (Kd.R_reads' HO_3.out).2.2 (rd (rd_L3 x5_2 (rd x9_3 x10_3)) x82_4) pBZ qBZ
                           obtain rfl : (⟨go18, 0, none⟩ : Addr) = adBZ := (by injection eBZ)
                           (first | simp only [add_plain] at hxBZ_0 | simp only [add_at] at hxBZ_0 | simp only [Addr.add, Nat.zero_add] at hxBZ_0 | skip)
                           replace pBZ := eq_true pBZ
                           replace qBZ := eq_true qBZ
                           go_wp2
                           (try simp only [← hl3_4])
                           go_roundg k4
                           case measure => have := HK1.out; have := HK2.out; have := HK3.out; have := HK4.out; omega
                           case rel => exact ⟨(x3_4), (x9_4), (wrap64 (x82_4 + 1)), rfS, H', ⟨by have := HK1.out; have := HK2.out; have := HK3.out; have := HK4.out; omega⟩, ⟨by (try simp only [hl3_1]); (try simp only [hl3_2]); (try simp only [hl3_3]); (try simp only [hl3_4]); (with_reducible repeat (first | apply Kd.R_alloc | apply Kd.R_drewN | apply Kd.R_drew)); exact HO_3.out⟩, ⟨by (try simp only [hl3_1]); (try simp only [hl3_2]); (try simp only [hl3_3]); (try simp only [hl3_4]); (with_reducible repeat (first | apply Kd.S_alloc | apply Kd.S_drewN | apply Kd.S_drew)); exact HO_5.out⟩, ⟨by (try simp only [hl3_1]); (try simp only [hl3_2]); (try simp only [hl3_3]); (try simp only [hl3_4]); (with_reducible repeat (first | apply Kd.R_alloc | apply Kd.R_drewN | apply Kd.R_drew)); exact HOX.out⟩, ⟨by (try simp only [hl3_1]); (try simp only [hl3_2]); (try simp only [hl3_3]); (try simp only [hl3_4]); (with_reducible repeat (first | apply Kd.R_alloc | apply Kd.R_drewN | apply Kd.R_drew)); exact HO_9.out⟩, ⟨by (try simp only [hl3_1]); (try simp only [hl3_2]); (try simp only [hl3_3]); (try simp only [hl3_4]); (with_reducible repeat (first | refine blk_drewN ?_ _ | refine blk_drew ?_ | refine blk_alloc ?_ _)); exact BKBD.out⟩, ⟨by exact belS⟩⟩
                         ·rw [if_neg c64] at H
                          exact absurd H (by simp)
                        ·rw [if_neg c63] at H
                         exact absurd H (by simp)
                       ·rw [if_neg c62] at H
                        exact absurd H (by simp)
                      ·rw [if_neg c61] at H
                       exact absurd H (by simp)
                     ·rw [if_neg c60] at H
                      have c60b0 : decide (x82_4 < ((rd_L3 x5_2 (rd x9_3 x10_3)).length : Int)) = false := decide_eq_false c60
                      (try (have c60b0z := c60b0; rw [hl3_1] at c60b0z))
                      (try (have c60b0z := c60b0; rw [hl3_2] at c60b0z))
                      (try (have c60b0z := c60b0; rw [hl3_3] at c60b0z))
                      (try (have c60b0z := c60b0; rw [hl3_4] at c60b0z))
                      clear c60
                      have H' := Am H
                      clear H
                      go_wp2
                      (try simp only [← hl3_3, ← hl3_4])
                      go_roundg k4
                      case measure => have := HK1.out; have := HK2.out; have := HK3.out; have := HK4.out; omega
                      case rel => exact ⟨(x3_4), (x9_4), (wrap64 (x10_3 + 1)), rfS, H', ⟨by have := HK1.out; have := HK2.out; have := HK3.out; have := HK4.out; omega⟩, ⟨by (try simp only [hl3_1]); (try simp only [hl3_2]); (try simp only [hl3_3]); (try simp only [hl3_4]); (with_reducible repeat (first | apply Kd.R_alloc | apply Kd.R_drewN | apply Kd.R_drew)); exact HO_3.out⟩, ⟨by (try simp only [hl3_1]); (try simp only [hl3_2]); (try simp only [hl3_3]); (try simp only [hl3_4]); (with_reducible repeat (first | apply Kd.S_alloc | apply Kd.S_drewN | apply Kd.S_drew)); exact HO_5.out⟩, ⟨by (try simp only [hl3_1]); (try simp only [hl3_2]); (try simp only [hl3_3]); (try simp only [hl3_4]); (with_reducible repeat (first | apply Kd.R_alloc | apply Kd.R_drewN | apply Kd.R_drew)); exact HO_9.out⟩, ⟨by (try simp only [hl3_1]); (try simp only [hl3_2]); (try simp only [hl3_3]); (try simp only [hl3_4]); (with_reducible repeat (first | refine blk_drewN ?_ _ | refine blk_drew ?_ | refine blk_alloc ?_ _)); exact BKBD.out⟩, ⟨by exact belS⟩⟩
                  ·rw [if_neg c57] at H
                   exact absurd H (by simp)
                 ·rw [if_neg c56] at H
                  exact absurd H (by simp)
                ·rw [if_neg c55] at H
                 exact absurd H (by simp)
               ·rw [if_neg c54] at H
                have c54b0 : decide (x10_3 < (x9_3.length : Int)) = false := decide_eq_false c54
                (try (have c54b0z := c54b0; rw [hl3_1] at c54b0z))
                (try (have c54b0z := c54b0; rw [hl3_2] at c54b0z))
                (try (have c54b0z := c54b0; rw [hl3_3] at c54b0z))
                clear c54
                obtain rfl := Option.some.inj H
                obtain ⟨Ao76, co76, eo76⟩ := Kd.R_slice HO_9.out
                subst eo76
                go_wp2
                go_ret
                exact ⟨_, by first | rfl | (simp [errW_none, errW_some] <;> rfl) | (simp only [← hji2, ← hji19]; first | rfl | (simp [errW_none, errW_some] <;> rfl)) | (simp [*, errW_none, errW_some] <;> rfl), by (with_reducible repeat (first | apply Kd.R_alloc | apply Kd.R_drewN | apply Kd.R_drew)); exact Kd.R_mono HO_3.out (fun _ hk => trivial), by exact belS⟩
         ·rw [if_neg c21] at H
          exact absurd H (by simp)
        ·rw [if_neg c20] at H
         exact absurd H (by simp)
       ·rw [if_neg c17] at H
        exact absurd H (by simp)
      ·rw [if_neg c16] at H
       exact absurd H (by simp)
  ·rw [if_neg c4] at H
   exact absurd H (by simp)
 ·rw [if_neg c3] at H
  exact absurd H (by simp)

end Go.Proofs.Ytkobjjadojpjfaa.Pr
