-- A text of the machine side, written by wip/gen.py of this repo out of the translation. Not trusted: Lean checks it.
import Derived.Test.YtkobjjadojpjfaaF0
namespace Go.Proofs.Ytkobjjadojpjfaa.Pr
open Go.RowKit Go.Proofs.YtkobjjadojpjfaaW.PrintWords Go.Proofs.YtkobjjadojpjfaaW.PrintLast Go.Proofs.YtkobjjadojpjfaaW.PrintMore
attribute [local go_sem] max2_int min2_int max_two min_two max_three min_three max_four min_four   -- for this text's walks alone
set_option linter.unusedVariables false
set_option linter.unusedSimpArgs false

section
/-! ### spec_l1In: function 136 -/
def spec_l1In.f (a0 : Int) (a1 : Int) (a2 : Int) : Option (Bool) := if a0 ≥ a1 then (some (decide (a0 ≤ a2))) else (some false)
set_option maxHeartbeats 8000000 in
set_option maxRecDepth 100000 in
theorem spec_l1In.calls (a0 : Int) (a1 : Int) (a2 : Int) (r : Bool) (w : World) (h : spec_l1In.f a0 a1 a2 = some r) :
  Calls Try.prog 136 #[.int .i64 a0, .int .i64 a1, .int .i64 a2] w fun e w' => e = .returned (.bool r) ∧ Drawn0 w w' := by
 have H : (if a0 ≥ a1 then (some (decide (a0 ≤ a2))) else (some false)) = some r := h
 clear h
 by_cases c4 : a0 ≥ a1
 ·rw [if_pos c4] at H
  have c4b0 : decide (a1 ≤ a0) = true := decide_eq_true c4
  clear c4
  obtain rfl := Option.some.inj H
  go_enter Try.func136, Try.ntmps136
  go_wp2
  go_ret
  exact ⟨by first | rfl | (simp; done) | (simp [*]; done), by repeat (first | exact Drawn0.refl _ | apply Drawn0.step)⟩
 ·rw [if_neg c4] at H
  have c4b0 : decide (a1 ≤ a0) = false := decide_eq_false c4
  clear c4
  obtain rfl := Option.some.inj H
  go_enter Try.func136, Try.ntmps136
  go_wp2
  go_ret
  exact ⟨by first | rfl | (simp; done) | (simp [*]; done), by repeat (first | exact Drawn0.refl _ | apply Drawn0.step)⟩

end

section
/-! ### spec_sqJump: function 191 -/
def spec_sqJump.l0 : Nat → Int → List (S27) → Int → Int → Option (Int)
 | 0, _, _, _, _ => none
 | k + 1, x1, x8, x9, x10 => if x10 < x9 then (if 0 ≤ x10 then (if x10 < (x8.length : Int) then (if ((rd_T27 x8 x10).f0) = x1 then (some ((rd_T27 x8 x10).f1)) else (spec_sqJump.l0 k x1 x8 x9 (wrap64 (x10 + 1)))) else (none)) else (none)) else (some x1)
def spec_sqJump.f (k : Nat) (a0_0 : Int) (a0_1 : Int) (a0_2 : Int) (l0_3 : List (S27)) (a1 : Int) : Option (Int) := spec_sqJump.l0 k a1 l0_3 (l0_3.length : Int) 0
set_option maxHeartbeats 8000000 in
set_option maxRecDepth 100000 in
theorem spec_sqJump.calls (k : Nat) (a0_0 : Int) (a0_1 : Int) (a0_2 : Int) (A0_3 : Option Addr) (c0_3 : Nat) (l0_3 : List (S27)) (a1 : Int) (r : Int) (w : World) (hr0_3 : Kd.C k27 w A0_3 l0_3.length l0_3) (hc0_3 : l0_3.length ≤ c0_3) (h : spec_sqJump.f k a0_0 a0_1 a0_2 l0_3 a1 = some r) :
  Calls Try.prog 191 #[.agg #[.int .i64 a0_0, .int .i64 a0_1, .int .i64 a0_2, .slice A0_3 l0_3.length c0_3], .int .i64 a1] w fun e w' => e = .returned (.int .i64 r) ∧ Below w.heap.size w w' := by
 have hu32 := Try.underlying32
 have hu27 := Try.underlying27
 have HR0_3 := Am hr0_3
 have HC0_3 := Am hc0_3
 clear hr0_3 hc0_3
 have HB := Am (Below.refl w.heap.size w)
 have H : (spec_sqJump.l0 k a1 l0_3 (l0_3.length : Int) 0) = some r := h
 clear h
 have H' := Am H
 clear H
 go_enter Try.func191, Try.ntmps191
 go_wp2_with (first | ((with_reducible refine gate_dst (N := 2) rfl ?_); refine box_event (by rfl) (N := 2) (by rfl) (cs := #[.int .i64 a0_0, .int .i64 a0_1, .int .i64 a0_2, .slice A0_3 l0_3.length c0_3]) (t := 32) hrS ?_; intro gbBD hg w3 hbox hb; have n0_ := Am (below_step belS hb); have n1_ := Am (hbox); have n2_ := Am (geS hg : w.heap.size ≤ gbBD); have n3_ := n2_; clear HB; revert n0_ n1_ n2_ n3_; intro HB BKBD GWBD GEBD; clear hb hbox hg; obtain ⟨hcz4_0, hcz4_1, hcz4_2, hcz4_3, hfz4_0, hfz4_1, hfz4_2, hfz4_3⟩ := blk4 BKBD.out))
 go_loopg [10] k (fun kq v10 w' => ∃ (x10_1 : Int), v10 = .int .i64 x10_1 ∧ Aside0 (spec_sqJump.l0 kq a1 l0_3 (l0_3.length : Int) x10_1 = some r) ∧ Aside0 (kq ≤ k) ∧ Aside0 (w'.heap[gbBD]? = some (.cells #[.int .i64 a0_0, .int .i64 a0_1, .int .i64 a0_2, (.slice A0_3 l0_3.length c0_3)] 32 (0, 0))) ∧ Aside0 (Below w.heap.size w w'))
 case atStart => exact ⟨(0), rfS, H', ⟨Nat.le_refl _⟩, ⟨by first | exact blk_up BKBD.out | exact BKBD.out⟩, ⟨by exact belS⟩⟩
 case round =>
  clear H'
  try clear hcz4_0 hcz4_1 hcz4_2 hcz4_3
  try clear hfz4_0 hfz4_1 hfz4_2 hfz4_3
  obtain ⟨x10_1, rfl, HA, HK1, BKBD, HB⟩ := hrel
  cases gk with
  | zero => exact absurd HA.out (by simp [spec_sqJump.l0])
  | succ k1 =>
   have H := HA.out
   clear HA
   simp only [spec_sqJump.l0] at H
   by_cases c5 : x10_1 < (l0_3.length : Int)
   ·rw [if_pos c5] at H
    have c5b0 : decide (x10_1 < (l0_3.length : Int)) = true := decide_eq_true c5
    clear c5
    by_cases c6 : 0 ≤ x10_1
    ·rw [if_pos c6] at H
     have c6b0 : decide (0 ≤ x10_1) = true := decide_eq_true c6
     clear c6
     by_cases c7 : x10_1 < (l0_3.length : Int)
     ·rw [if_pos c7] at H
      have c7b0 : decide (x10_1 < (l0_3.length : Int)) = true := decide_eq_true c7
      clear c7
      by_cases c8 : ((rd_T27 l0_3 x10_1).f0) = a1
      ·rw [if_pos c8] at H
       have c8b0 : (((rd_T27 l0_3 x10_1).f0) == a1) = true := beq_iff_eq.mpr c8
       have c8b1 : (((rd_T27 l0_3 x10_1).f0) != a1) = false := bne_eq_false_iff_eq.mpr c8
       clear c8
       obtain rfl := Option.some.inj H
       have pBE : 0 ≤ (x10_1 : Int) := ofd
       have qBE : x10_1 < (l0_3.length : Int) := ofd
       obtain ⟨adBE, eBE, hxBE_0, hxBE_1⟩ := at_T27 HR0_3.out x10_1 pBE qBE
       cases eBE
       first | (replace hxBE_0 := (HB.out.cell (World.block_lt_of_cell? w _ hxBE_0)).trans hxBE_0) | skip
       first | (replace hxBE_1 := (HB.out.cell (World.block_lt_of_cell? w _ hxBE_1)).trans hxBE_1) | skip
       replace pBE := eq_true pBE
       replace qBE := eq_true qBE
       go_wp2_with (first | ((with_reducible refine gate_dst (N := 6) rfl ?_); refine box_event (by rfl) (N := 6) (by rfl) (cs := #[.int .i64 0, .int .i64 0]) (t := 27) hrS ?_; intro gbBF hg w9 hbox hb; have n0_ := Am (blk_below (blk_up BKBD.out) hb); have n1_ := Am (below_step belS hb); have n2_ := Am (hbox); have n3_ := Am (geS hg : w.heap.size ≤ gbBF); have n4_ := n3_; have n5_ := Am ((by rw [hg]; exact Nat.ne_of_lt (blk_lt (blk_up BKBD.out)) : gbBD ≠ gbBF)); have n6_ := Am ((by rw [hg]; exact Nat.ne_of_gt (blk_lt (blk_up BKBD.out)) : gbBF ≠ gbBD)); clear BKBD HB; revert n0_ n1_ n2_ n3_ n4_ n5_ n6_; intro BKBD HB BKBF GWBF GEBF NBBD_BF NBBF_BD; clear hb hbox hg; have hnb10 := NBBF_BD.out; have hnc10 := NBBD_BF.out; obtain ⟨hcz11_0, hcz11_1, hfz11_0, hfz11_1⟩ := blk2 BKBF.out))
       go_ret
       exact ⟨rfE, by exact belS⟩
      ·rw [if_neg c8] at H
       have c8b0 : (((rd_T27 l0_3 x10_1).f0) == a1) = false := beq_eq_false_iff_ne.mpr c8
       have c8b1 : (((rd_T27 l0_3 x10_1).f0) != a1) = true := bne_iff_ne.mpr c8
       have H' := Am H
       clear H
       have pBE : 0 ≤ (x10_1 : Int) := ofd
       have qBE : x10_1 < (l0_3.length : Int) := ofd
       obtain ⟨adBE, eBE, hxBE_0, hxBE_1⟩ := at_T27 HR0_3.out x10_1 pBE qBE
       cases eBE
       first | (replace hxBE_0 := (HB.out.cell (World.block_lt_of_cell? w _ hxBE_0)).trans hxBE_0) | skip
       first | (replace hxBE_1 := (HB.out.cell (World.block_lt_of_cell? w _ hxBE_1)).trans hxBE_1) | skip
       replace pBE := eq_true pBE
       replace qBE := eq_true qBE
       go_wp2_with (first | ((with_reducible refine gate_dst (N := 6) rfl ?_); refine box_event (by rfl) (N := 6) (by rfl) (cs := #[.int .i64 0, .int .i64 0]) (t := 27) hrS ?_; intro gbBF hg w12 hbox hb; have n0_ := Am (blk_below (blk_up BKBD.out) hb); have n1_ := Am (below_step belS hb); have n2_ := Am (hbox); have n3_ := Am (geS hg : w.heap.size ≤ gbBF); have n4_ := n3_; have n5_ := Am ((by rw [hg]; exact Nat.ne_of_lt (blk_lt (blk_up BKBD.out)) : gbBD ≠ gbBF)); have n6_ := Am ((by rw [hg]; exact Nat.ne_of_gt (blk_lt (blk_up BKBD.out)) : gbBF ≠ gbBD)); clear BKBD HB; revert n0_ n1_ n2_ n3_ n4_ n5_ n6_; intro BKBD HB BKBF GWBF GEBF NBBD_BF NBBF_BD; clear hb hbox hg; have hnb13 := NBBF_BD.out; have hnc13 := NBBD_BF.out; obtain ⟨hcz14_0, hcz14_1, hfz14_0, hfz14_1⟩ := blk2 BKBF.out))
       go_roundg k1
       case measure => have := HK1.out; omega
       case rel => exact ⟨(wrap64 (x10_1 + 1)), rfS, H', ⟨by have := HK1.out; omega⟩, ⟨by (with_reducible repeat (first | refine blk_drewN ?_ _ | refine blk_drew ?_ | refine blk_alloc ?_ _)); refine blk_farU ?_ NBBD_BF.out _; refine blk_farU ?_ NBBD_BF.out _; exact BKBD.out⟩, ⟨by exact belS⟩⟩
     ·rw [if_neg c7] at H
      exact absurd H (by simp)
    ·rw [if_neg c6] at H
     exact absurd H (by simp)
   ·rw [if_neg c5] at H
    have c5b0 : decide (x10_1 < (l0_3.length : Int)) = false := decide_eq_false c5
    clear c5
    obtain rfl := Option.some.inj H
    go_wp2
    go_ret
    exact ⟨rfE, by exact belS⟩

end

section
/-! ### spec_sqThrow: function 137 -/
def spec_sqThrow.f (k : Nat) (a0_0 : Int) (a0_1 : Int) (a0_2 : Int) (l0_3 : List (S27)) (a1 : Int) (a2 : Int) : Option (Int) := if a1 = a0_0 then (some a1) else (if (wrap64 (a1 + a2)) > a0_0 then (if a0_2 = 0 then (some a1) else (if a0_2 = 1 then (some a0_0) else (if (wrap64 ((wrap64 (2 * a0_0)) - (wrap64 (a1 + a2)))) < 0 then (some a1) else ((spec_sqJump.f k a0_0 a0_1 a0_2 l0_3 (wrap64 ((wrap64 (2 * a0_0)) - (wrap64 (a1 + a2))))).bind fun tBE => (some tBE))))) else ((spec_sqJump.f k a0_0 a0_1 a0_2 l0_3 (wrap64 (a1 + a2))).bind fun tBF => (some tBF)))
set_option maxHeartbeats 8000000 in
set_option maxRecDepth 100000 in
theorem spec_sqThrow.calls (k : Nat) (a0_0 : Int) (a0_1 : Int) (a0_2 : Int) (A0_3 : Option Addr) (c0_3 : Nat) (l0_3 : List (S27)) (a1 : Int) (a2 : Int) (r : Int) (w : World) (hr0_3 : Kd.C k27 w A0_3 l0_3.length l0_3) (hc0_3 : l0_3.length ≤ c0_3) (h : spec_sqThrow.f k a0_0 a0_1 a0_2 l0_3 a1 a2 = some r) :
  Calls Try.prog 137 #[.agg #[.int .i64 a0_0, .int .i64 a0_1, .int .i64 a0_2, .slice A0_3 l0_3.length c0_3], .int .i64 a1, .int .i64 a2] w fun e w' => e = .returned (.int .i64 r) ∧ Below w.heap.size w w' := by
 have hu32 := Try.underlying32
 have HR0_3 := Am hr0_3
 have HC0_3 := Am hc0_3
 clear hr0_3 hc0_3
 have HB := Am (Below.refl w.heap.size w)
 have H : (if a1 = a0_0 then (some a1) else (if (wrap64 (a1 + a2)) > a0_0 then (if a0_2 = 0 then (some a1) else (if a0_2 = 1 then (some a0_0) else (if (wrap64 ((wrap64 (2 * a0_0)) - (wrap64 (a1 + a2)))) < 0 then (some a1) else ((spec_sqJump.f k a0_0 a0_1 a0_2 l0_3 (wrap64 ((wrap64 (2 * a0_0)) - (wrap64 (a1 + a2))))).bind fun tBE => (some tBE))))) else ((spec_sqJump.f k a0_0 a0_1 a0_2 l0_3 (wrap64 (a1 + a2))).bind fun tBF => (some tBF)))) = some r := h
 clear h
 by_cases c4 : a1 = a0_0
 ·rw [if_pos c4] at H
  have c4b0 : (a1 == a0_0) = true := beq_iff_eq.mpr c4
  have c4b1 : (a1 != a0_0) = false := bne_eq_false_iff_eq.mpr c4
  clear c4
  obtain rfl := Option.some.inj H
  go_enter Try.func137, Try.ntmps137
  go_wp2_with (first | ((with_reducible refine gate_dst (N := 3) rfl ?_); refine box_event (by rfl) (N := 3) (by rfl) (cs := #[.int .i64 a0_0, .int .i64 a0_1, .int .i64 a0_2, .slice A0_3 l0_3.length c0_3]) (t := 32) hrS ?_; intro gbBD hg w5 hbox hb; have n0_ := Am (below_step belS hb); have n1_ := Am (hbox); have n2_ := Am (geS hg : w.heap.size ≤ gbBD); have n3_ := n2_; clear HB; revert n0_ n1_ n2_ n3_; intro HB BKBD GWBD GEBD; clear hb hbox hg; obtain ⟨hcz6_0, hcz6_1, hcz6_2, hcz6_3, hfz6_0, hfz6_1, hfz6_2, hfz6_3⟩ := blk4 BKBD.out))
  go_ret
  exact ⟨rfE, by exact belS⟩
 ·rw [if_neg c4] at H
  have c4b0 : (a1 == a0_0) = false := beq_eq_false_iff_ne.mpr c4
  have c4b1 : (a1 != a0_0) = true := bne_iff_ne.mpr c4
  by_cases c7 : (wrap64 (a1 + a2)) > a0_0
  ·rw [if_pos c7] at H
   have c7b0 : decide (a0_0 < (wrap64 (a1 + a2))) = true := decide_eq_true c7
   clear c7
   by_cases c8 : a0_2 = 0
   ·rw [if_pos c8] at H
    have c8b0 : (a0_2 == 0) = true := beq_iff_eq.mpr c8
    have c8b1 : (a0_2 != 0) = false := bne_eq_false_iff_eq.mpr c8
    clear c8
    obtain rfl := Option.some.inj H
    go_enter Try.func137, Try.ntmps137
    go_wp2_with (first | ((with_reducible refine gate_dst (N := 3) rfl ?_); refine box_event (by rfl) (N := 3) (by rfl) (cs := #[.int .i64 a0_0, .int .i64 a0_1, .int .i64 a0_2, .slice A0_3 l0_3.length c0_3]) (t := 32) hrS ?_; intro gbBD hg w9 hbox hb; have n0_ := Am (below_step belS hb); have n1_ := Am (hbox); have n2_ := Am (geS hg : w.heap.size ≤ gbBD); have n3_ := n2_; clear HB; revert n0_ n1_ n2_ n3_; intro HB BKBD GWBD GEBD; clear hb hbox hg; obtain ⟨hcz10_0, hcz10_1, hcz10_2, hcz10_3, hfz10_0, hfz10_1, hfz10_2, hfz10_3⟩ := blk4 BKBD.out))
    go_ret
    exact ⟨rfE, by exact belS⟩
   ·rw [if_neg c8] at H
    have c8b0 : (a0_2 == 0) = false := beq_eq_false_iff_ne.mpr c8
    have c8b1 : (a0_2 != 0) = true := bne_iff_ne.mpr c8
    by_cases c11 : a0_2 = 1
    ·rw [if_pos c11] at H
     have c11b0 : (a0_2 == 1) = true := beq_iff_eq.mpr c11
     have c11b1 : (a0_2 != 1) = false := bne_eq_false_iff_eq.mpr c11
     clear c11
     obtain rfl := Option.some.inj H
     go_enter Try.func137, Try.ntmps137
     go_wp2_with (first | ((with_reducible refine gate_dst (N := 3) rfl ?_); refine box_event (by rfl) (N := 3) (by rfl) (cs := #[.int .i64 a0_0, .int .i64 a0_1, .int .i64 a0_2, .slice A0_3 l0_3.length c0_3]) (t := 32) hrS ?_; intro gbBD hg w12 hbox hb; have n0_ := Am (below_step belS hb); have n1_ := Am (hbox); have n2_ := Am (geS hg : w.heap.size ≤ gbBD); have n3_ := n2_; clear HB; revert n0_ n1_ n2_ n3_; intro HB BKBD GWBD GEBD; clear hb hbox hg; obtain ⟨hcz13_0, hcz13_1, hcz13_2, hcz13_3, hfz13_0, hfz13_1, hfz13_2, hfz13_3⟩ := blk4 BKBD.out))
     go_ret
     exact ⟨rfE, by exact belS⟩
    ·rw [if_neg c11] at H
     have c11b0 : (a0_2 == 1) = false := beq_eq_false_iff_ne.mpr c11
     have c11b1 : (a0_2 != 1) = true := bne_iff_ne.mpr c11
     by_cases c14 : (wrap64 ((wrap64 (2 * a0_0)) - (wrap64 (a1 + a2)))) < 0
     ·rw [if_pos c14] at H
      have c14b0 : decide ((wrap64 ((wrap64 (2 * a0_0)) - (wrap64 (a1 + a2)))) < 0) = true := decide_eq_true c14
      clear c14
      obtain rfl := Option.some.inj H
      go_enter Try.func137, Try.ntmps137
      go_wp2_with (first | ((with_reducible refine gate_dst (N := 3) rfl ?_); refine box_event (by rfl) (N := 3) (by rfl) (cs := #[.int .i64 a0_0, .int .i64 a0_1, .int .i64 a0_2, .slice A0_3 l0_3.length c0_3]) (t := 32) hrS ?_; intro gbBD hg w15 hbox hb; have n0_ := Am (below_step belS hb); have n1_ := Am (hbox); have n2_ := Am (geS hg : w.heap.size ≤ gbBD); have n3_ := n2_; clear HB; revert n0_ n1_ n2_ n3_; intro HB BKBD GWBD GEBD; clear hb hbox hg; obtain ⟨hcz16_0, hcz16_1, hcz16_2, hcz16_3, hfz16_0, hfz16_1, hfz16_2, hfz16_3⟩ := blk4 BKBD.out))
      go_ret
      exact ⟨rfE, by exact belS⟩
     ·rw [if_neg c14] at H
      have c14b0 : decide ((wrap64 ((wrap64 (2 * a0_0)) - (wrap64 (a1 + a2)))) < 0) = false := decide_eq_false c14
      clear c14
      replace H := Option.bind_eq_some_iff.mp H
      obtain ⟨tBE, A170, H⟩ := H
      replace H : (some tBE) = some r := H
      have A17 := Am A170
      clear A170
      obtain rfl := Option.some.inj H
      go_enter Try.func137, Try.ntmps137
      go_wp2_with (first | ((with_reducible refine gate_dst (N := 3) rfl ?_); refine box_event (by rfl) (N := 3) (by rfl) (cs := #[.int .i64 a0_0, .int .i64 a0_1, .int .i64 a0_2, .slice A0_3 l0_3.length c0_3]) (t := 32) hrS ?_; intro gbBD hg w18 hbox hb; have n0_ := Am (below_step belS hb); have n1_ := Am (hbox); have n2_ := Am (geS hg : w.heap.size ≤ gbBD); have n3_ := n2_; clear HB; revert n0_ n1_ n2_ n3_; intro HB BKBD GWBD GEBD; clear hb hbox hg; obtain ⟨hcz19_0, hcz19_1, hcz19_2, hcz19_3, hfz19_0, hfz19_1, hfz19_2, hfz19_3⟩ := blk4 BKBD.out) | ((with_reducible refine gate_callee (f := 191) rfl ?_); refine goesL_ (some 39) rfl rfl Try.func191 (by kernel_rfl) rfl #[.agg #[.int .i64 a0_0, .int .i64 a0_1, .int .i64 a0_2, .slice A0_3 l0_3.length c0_3], .int .i64 (wrap64 ((wrap64 (2 * a0_0)) - (wrap64 (a1 + a2))))] rfl argS ?_; (with_reducible refine (spec_sqJump.calls k a0_0 a0_1 a0_2 _ _ l0_3 (wrap64 ((wrap64 (2 * a0_0)) - (wrap64 (a1 + a2)))) tBE _ ?side1 ?side2 A17.out).mono ?_); (case side1 => exact Kd.C_up (Kd.C_below HR0_3.out HB.out)); (case side2 => exact HC0_3.out); rintro e w20 ⟨rfl, hb⟩; refine ⟨_, rfl, ?_⟩; have n0_ := Am (blk_below (blk_up BKBD.out) hb); have n1_ := Am (below_step belS hb); clear BKBD HB; revert n0_ n1_; intro BKBD HB; (try clear hb)))
      go_ret
      exact ⟨rfE, by exact belS⟩
  ·rw [if_neg c7] at H
   have c7b0 : decide (a0_0 < (wrap64 (a1 + a2))) = false := decide_eq_false c7
   clear c7
   replace H := Option.bind_eq_some_iff.mp H
   obtain ⟨tBF, A210, H⟩ := H
   replace H : (some tBF) = some r := H
   have A21 := Am A210
   clear A210
   obtain rfl := Option.some.inj H
   go_enter Try.func137, Try.ntmps137
   go_wp2_with (first | ((with_reducible refine gate_dst (N := 3) rfl ?_); refine box_event (by rfl) (N := 3) (by rfl) (cs := #[.int .i64 a0_0, .int .i64 a0_1, .int .i64 a0_2, .slice A0_3 l0_3.length c0_3]) (t := 32) hrS ?_; intro gbBD hg w22 hbox hb; have n0_ := Am (below_step belS hb); have n1_ := Am (hbox); have n2_ := Am (geS hg : w.heap.size ≤ gbBD); have n3_ := n2_; clear HB; revert n0_ n1_ n2_ n3_; intro HB BKBD GWBD GEBD; clear hb hbox hg; obtain ⟨hcz23_0, hcz23_1, hcz23_2, hcz23_3, hfz23_0, hfz23_1, hfz23_2, hfz23_3⟩ := blk4 BKBD.out) | ((with_reducible refine gate_callee (f := 191) rfl ?_); refine goesL_ (some 39) rfl rfl Try.func191 (by kernel_rfl) rfl #[.agg #[.int .i64 a0_0, .int .i64 a0_1, .int .i64 a0_2, .slice A0_3 l0_3.length c0_3], .int .i64 (wrap64 (a1 + a2))] rfl argS ?_; (with_reducible refine (spec_sqJump.calls k a0_0 a0_1 a0_2 _ _ l0_3 (wrap64 (a1 + a2)) tBF _ ?side1 ?side2 A21.out).mono ?_); (case side1 => exact Kd.C_up (Kd.C_below HR0_3.out HB.out)); (case side2 => exact HC0_3.out); rintro e w24 ⟨rfl, hb⟩; refine ⟨_, rfl, ?_⟩; have n0_ := Am (blk_below (blk_up BKBD.out) hb); have n1_ := Am (below_step belS hb); clear BKBD HB; revert n0_ n1_; intro BKBD HB; (try clear hb)))
   go_ret
   exact ⟨rfE, by exact belS⟩

end

section
/-! ### impl_within: function 131 -/
def impl_within.f (a0 : Int) (a1 : Int) (a2 : Int) : Option (Bool) := if a0 ≥ a1 then (some (decide (a0 ≤ a2))) else (some false)
set_option maxHeartbeats 8000000 in
set_option maxRecDepth 100000 in
theorem impl_within.calls (a0 : Int) (a1 : Int) (a2 : Int) (r : Bool) (w : World) (h : impl_within.f a0 a1 a2 = some r) :
  Calls Try.prog 131 #[.int .i64 a0, .int .i64 a1, .int .i64 a2] w fun e w' => e = .returned (.bool r) ∧ Drawn0 w w' := by
 have H : (if a0 ≥ a1 then (some (decide (a0 ≤ a2))) else (some false)) = some r := h
 clear h
 by_cases c4 : a0 ≥ a1
 ·rw [if_pos c4] at H
  have c4b0 : decide (a1 ≤ a0) = true := decide_eq_true c4
  clear c4
  obtain rfl := Option.some.inj H
  go_enter Try.func131, Try.ntmps131
  go_wp2
  go_ret
  exact ⟨by first | rfl | (simp; done) | (simp [*]; done), by repeat (first | exact Drawn0.refl _ | apply Drawn0.step)⟩
 ·rw [if_neg c4] at H
  have c4b0 : decide (a1 ≤ a0) = false := decide_eq_false c4
  clear c4
  obtain rfl := Option.some.inj H
  go_enter Try.func131, Try.ntmps131
  go_wp2
  go_ret
  exact ⟨by first | rfl | (simp; done) | (simp [*]; done), by repeat (first | exact Drawn0.refl _ | apply Drawn0.step)⟩

end

section
/-! ### impl_Board_begins: function 132 -/
def impl_Board_begins.l0 : Nat → Int → List (S27) → Int → Int → Option (Int × Bool)
 | 0, _, _, _, _ => none
 | k + 1, x1, x9, x10, x11 => if x11 < x10 then (if 0 ≤ x11 then (if x11 < (x9.length : Int) then (if ((rd_T27 x9 x11).f0) = x1 then (some ((rd_T27 x9 x11).f1, true)) else (impl_Board_begins.l0 k x1 x9 x10 (wrap64 (x11 + 1)))) else (none)) else (none)) else (some (x1, false))
def impl_Board_begins.f (k : Nat) (a0_0 : Int) (a0_1 : Int) (a0_2 : Int) (l0_3 : List (S27)) (a1 : Int) : Option (Int × Bool) := impl_Board_begins.l0 k a1 l0_3 (l0_3.length : Int) 0
set_option maxHeartbeats 8000000 in
set_option maxRecDepth 100000 in
theorem impl_Board_begins.calls (k : Nat) (a0_0 : Int) (a0_1 : Int) (a0_2 : Int) (A0_3 : Option Addr) (c0_3 : Nat) (l0_3 : List (S27)) (a1 : Int) (r1 : Int) (r2 : Bool) (w : World) (hr0_3 : Kd.C k27 w A0_3 l0_3.length l0_3) (hc0_3 : l0_3.length ≤ c0_3) (h : impl_Board_begins.f k a0_0 a0_1 a0_2 l0_3 a1 = some (r1, r2)) :
  Calls Try.prog 132 #[.agg #[.int .i64 a0_0, .int .i64 a0_1, .int .i64 a0_2, .slice A0_3 l0_3.length c0_3], .int .i64 a1] w fun e w' => e = .returned (.tuple #[.int .i64 r1, .bool r2]) ∧ Below w.heap.size w w' := by
 have hu32 := Try.underlying32
 have hu27 := Try.underlying27
 have HR0_3 := Am hr0_3
 have HC0_3 := Am hc0_3
 clear hr0_3 hc0_3
 have HB := Am (Below.refl w.heap.size w)
 have H : (impl_Board_begins.l0 k a1 l0_3 (l0_3.length : Int) 0) = some (r1, r2) := h
 clear h
 have H' := Am H
 clear H
 go_enter Try.func132, Try.ntmps132
 go_wp2_with (first | ((with_reducible refine gate_dst (N := 2) rfl ?_); refine box_event (by rfl) (N := 2) (by rfl) (cs := #[.int .i64 a0_0, .int .i64 a0_1, .int .i64 a0_2, .slice A0_3 l0_3.length c0_3]) (t := 32) hrS ?_; intro gbBD hg w3 hbox hb; have n0_ := Am (below_step belS hb); have n1_ := Am (hbox); have n2_ := Am (geS hg : w.heap.size ≤ gbBD); have n3_ := n2_; clear HB; revert n0_ n1_ n2_ n3_; intro HB BKBD GWBD GEBD; clear hb hbox hg; obtain ⟨hcz4_0, hcz4_1, hcz4_2, hcz4_3, hfz4_0, hfz4_1, hfz4_2, hfz4_3⟩ := blk4 BKBD.out))
 go_loopg [11] k (fun kq v11 w' => ∃ (x11_1 : Int), v11 = .int .i64 x11_1 ∧ Aside0 (impl_Board_begins.l0 kq a1 l0_3 (l0_3.length : Int) x11_1 = some (r1, r2)) ∧ Aside0 (kq ≤ k) ∧ Aside0 (w'.heap[gbBD]? = some (.cells #[.int .i64 a0_0, .int .i64 a0_1, .int .i64 a0_2, (.slice A0_3 l0_3.length c0_3)] 32 (0, 0))) ∧ Aside0 (Below w.heap.size w w'))
 case atStart => exact ⟨(0), rfS, H', ⟨Nat.le_refl _⟩, ⟨by first | exact blk_up BKBD.out | exact BKBD.out⟩, ⟨by exact belS⟩⟩
 case round =>
  clear H'
  try clear hcz4_0 hcz4_1 hcz4_2 hcz4_3
  try clear hfz4_0 hfz4_1 hfz4_2 hfz4_3
  obtain ⟨x11_1, rfl, HA, HK1, BKBD, HB⟩ := hrel
  cases gk with
  | zero => exact absurd HA.out (by simp [impl_Board_begins.l0])
  | succ k1 =>
   have H := HA.out
   clear HA
   simp only [impl_Board_begins.l0] at H
   by_cases c5 : x11_1 < (l0_3.length : Int)
   ·rw [if_pos c5] at H
    have c5b0 : decide (x11_1 < (l0_3.length : Int)) = true := decide_eq_true c5
    clear c5
    by_cases c6 : 0 ≤ x11_1
    ·rw [if_pos c6] at H
     have c6b0 : decide (0 ≤ x11_1) = true := decide_eq_true c6
     clear c6
     by_cases c7 : x11_1 < (l0_3.length : Int)
     ·rw [if_pos c7] at H
      have c7b0 : decide (x11_1 < (l0_3.length : Int)) = true := decide_eq_true c7
      clear c7
      by_cases c8 : ((rd_T27 l0_3 x11_1).f0) = a1
      ·rw [if_pos c8] at H
       have c8b0 : (((rd_T27 l0_3 x11_1).f0) == a1) = true := beq_iff_eq.mpr c8
       have c8b1 : (((rd_T27 l0_3 x11_1).f0) != a1) = false := bne_eq_false_iff_eq.mpr c8
       clear c8
       simp only [Option.some.injEq, Prod.mk.injEq] at H
       obtain ⟨rfl, rfl⟩ := H
       have pBE : 0 ≤ (x11_1 : Int) := ofd
       have qBE : x11_1 < (l0_3.length : Int) := ofd
       obtain ⟨adBE, eBE, hxBE_0, hxBE_1⟩ := at_T27 HR0_3.out x11_1 pBE qBE
       cases eBE
       first | (replace hxBE_0 := (HB.out.cell (World.block_lt_of_cell? w _ hxBE_0)).trans hxBE_0) | skip
       first | (replace hxBE_1 := (HB.out.cell (World.block_lt_of_cell? w _ hxBE_1)).trans hxBE_1) | skip
       replace pBE := eq_true pBE
       replace qBE := eq_true qBE
       go_wp2_with (first | ((with_reducible refine gate_dst (N := 7) rfl ?_); refine box_event (by rfl) (N := 7) (by rfl) (cs := #[.int .i64 0, .int .i64 0]) (t := 27) hrS ?_; intro gbBF hg w9 hbox hb; have n0_ := Am (blk_below (blk_up BKBD.out) hb); have n1_ := Am (below_step belS hb); have n2_ := Am (hbox); have n3_ := Am (geS hg : w.heap.size ≤ gbBF); have n4_ := n3_; have n5_ := Am ((by rw [hg]; exact Nat.ne_of_lt (blk_lt (blk_up BKBD.out)) : gbBD ≠ gbBF)); have n6_ := Am ((by rw [hg]; exact Nat.ne_of_gt (blk_lt (blk_up BKBD.out)) : gbBF ≠ gbBD)); clear BKBD HB; revert n0_ n1_ n2_ n3_ n4_ n5_ n6_; intro BKBD HB BKBF GWBF GEBF NBBD_BF NBBF_BD; clear hb hbox hg; have hnb10 := NBBF_BD.out; have hnc10 := NBBD_BF.out; obtain ⟨hcz11_0, hcz11_1, hfz11_0, hfz11_1⟩ := blk2 BKBF.out))
       go_ret2
       exact ⟨rfE, by exact belS⟩
      ·rw [if_neg c8] at H
       have c8b0 : (((rd_T27 l0_3 x11_1).f0) == a1) = false := beq_eq_false_iff_ne.mpr c8
       have c8b1 : (((rd_T27 l0_3 x11_1).f0) != a1) = true := bne_iff_ne.mpr c8
       have H' := Am H
       clear H
       have pBE : 0 ≤ (x11_1 : Int) := ofd
       have qBE : x11_1 < (l0_3.length : Int) := ofd
       obtain ⟨adBE, eBE, hxBE_0, hxBE_1⟩ := at_T27 HR0_3.out x11_1 pBE qBE
       cases eBE
       first | (replace hxBE_0 := (HB.out.cell (World.block_lt_of_cell? w _ hxBE_0)).trans hxBE_0) | skip
       first | (replace hxBE_1 := (HB.out.cell (World.block_lt_of_cell? w _ hxBE_1)).trans hxBE_1) | skip
       replace pBE := eq_true pBE
       replace qBE := eq_true qBE
       go_wp2_with (first | ((with_reducible refine gate_dst (N := 7) rfl ?_); refine box_event (by rfl) (N := 7) (by rfl) (cs := #[.int .i64 0, .int .i64 0]) (t := 27) hrS ?_; intro gbBF hg w12 hbox hb; have n0_ := Am (blk_below (blk_up BKBD.out) hb); have n1_ := Am (below_step belS hb); have n2_ := Am (hbox); have n3_ := Am (geS hg : w.heap.size ≤ gbBF); have n4_ := n3_; have n5_ := Am ((by rw [hg]; exact Nat.ne_of_lt (blk_lt (blk_up BKBD.out)) : gbBD ≠ gbBF)); have n6_ := Am ((by rw [hg]; exact Nat.ne_of_gt (blk_lt (blk_up BKBD.out)) : gbBF ≠ gbBD)); clear BKBD HB; revert n0_ n1_ n2_ n3_ n4_ n5_ n6_; intro BKBD HB BKBF GWBF GEBF NBBD_BF NBBF_BD; clear hb hbox hg; have hnb13 := NBBF_BD.out; have hnc13 := NBBD_BF.out; obtain ⟨hcz14_0, hcz14_1, hfz14_0, hfz14_1⟩ := blk2 BKBF.out))
       go_roundg k1
       case measure => have := HK1.out; omega
       case rel => exact ⟨(wrap64 (x11_1 + 1)), rfS, H', ⟨by have := HK1.out; omega⟩, ⟨by (with_reducible repeat (first | refine blk_drewN ?_ _ | refine blk_drew ?_ | refine blk_alloc ?_ _)); refine blk_farU ?_ NBBD_BF.out _; refine blk_farU ?_ NBBD_BF.out _; exact BKBD.out⟩, ⟨by exact belS⟩⟩
     ·rw [if_neg c7] at H
      exact absurd H (by simp)
    ·rw [if_neg c6] at H
     exact absurd H (by simp)
   ·rw [if_neg c5] at H
    have c5b0 : decide (x11_1 < (l0_3.length : Int)) = false := decide_eq_false c5
    clear c5
    simp only [Option.some.injEq, Prod.mk.injEq] at H
    obtain ⟨rfl, rfl⟩ := H
    go_wp2
    go_ret2
    exact ⟨rfE, by exact belS⟩

end

section
/-! ### impl_Board_isSquare: function 166 -/
def impl_Board_isSquare.f (k : Nat) (a0_0 : Int) (a0_1 : Int) (a0_2 : Int) (l0_3 : List (S27)) (a1 : Int) : Option (Bool) := (impl_Board_begins.f k a0_0 a0_1 a0_2 l0_3 a1).bind fun btBE => ((impl_within.f a1 0 a0_0).bind fun tBG => (if tBG = true then (some (!btBE.2)) else (some false)))
set_option maxHeartbeats 8000000 in
set_option maxRecDepth 100000 in
theorem impl_Board_isSquare.calls (k : Nat) (a0_0 : Int) (a0_1 : Int) (a0_2 : Int) (A0_3 : Option Addr) (c0_3 : Nat) (l0_3 : List (S27)) (a1 : Int) (r : Bool) (w : World) (hr0_3 : Kd.C k27 w A0_3 l0_3.length l0_3) (hc0_3 : l0_3.length ≤ c0_3) (h : impl_Board_isSquare.f k a0_0 a0_1 a0_2 l0_3 a1 = some r) :
  Calls Try.prog 166 #[.agg #[.int .i64 a0_0, .int .i64 a0_1, .int .i64 a0_2, .slice A0_3 l0_3.length c0_3], .int .i64 a1] w fun e w' => e = .returned (.bool r) ∧ Below w.heap.size w w' := by
 have hu32 := Try.underlying32
 have HR0_3 := Am hr0_3
 have HC0_3 := Am hc0_3
 clear hr0_3 hc0_3
 have HB := Am (Below.refl w.heap.size w)
 have H : ((impl_Board_begins.f k a0_0 a0_1 a0_2 l0_3 a1).bind fun btBE => ((impl_within.f a1 0 a0_0).bind fun tBG => (if tBG = true then (some (!btBE.2)) else (some false)))) = some r := h
 clear h
 replace H := Option.bind_eq_some_iff.mp H
 obtain ⟨⟨tBE, tBF⟩, A30, H⟩ := H
 replace H : ((impl_within.f a1 0 a0_0).bind fun tBG => (if tBG = true then (some (!tBF)) else (some false))) = some r := H
 have A3 := Am A30
 clear A30
 replace H := Option.bind_eq_some_iff.mp H
 obtain ⟨tBG, A40, H⟩ := H
 replace H : (if tBG = true then (some (!tBF)) else (some false)) = some r := H
 have A4 := Am A40
 clear A40
 by_cases c5 : tBG = true
 ·subst c5
  have H1 : (some (!tBF)) = some r := by rw [if_pos rfl] at H; exact H
  clear H
  have H := H1
  clear H1
  obtain rfl := Option.some.inj H
  go_enter Try.func166, Try.ntmps166
  go_wp2_with (first | ((with_reducible refine gate_dst (N := 2) rfl ?_); refine box_event (by rfl) (N := 2) (by rfl) (cs := #[.int .i64 a0_0, .int .i64 a0_1, .int .i64 a0_2, .slice A0_3 l0_3.length c0_3]) (t := 32) hrS ?_; intro gbBD hg w6 hbox hb; have n0_ := Am (below_step belS hb); have n1_ := Am (hbox); have n2_ := Am (geS hg : w.heap.size ≤ gbBD); have n3_ := n2_; clear HB; revert n0_ n1_ n2_ n3_; intro HB BKBD GWBD GEBD; clear hb hbox hg; obtain ⟨hcz7_0, hcz7_1, hcz7_2, hcz7_3, hfz7_0, hfz7_1, hfz7_2, hfz7_3⟩ := blk4 BKBD.out) | ((with_reducible refine gate_callee (f := 132) rfl ?_); refine goesL_ (some 10) rfl rfl Try.func132 (by kernel_rfl) rfl #[.agg #[.int .i64 a0_0, .int .i64 a0_1, .int .i64 a0_2, .slice A0_3 l0_3.length c0_3], .int .i64 a1] rfl argS ?_; (with_reducible refine (impl_Board_begins.calls k a0_0 a0_1 a0_2 _ _ l0_3 a1 tBE tBF _ ?side1 ?side2 A3.out).mono ?_); (case side1 => exact Kd.C_up (Kd.C_below HR0_3.out HB.out)); (case side2 => exact HC0_3.out); rintro e w8 ⟨rfl, hb⟩; refine ⟨_, rfl, ?_⟩; have n0_ := Am (blk_below (blk_up BKBD.out) hb); have n1_ := Am (below_step belS hb); clear BKBD HB; revert n0_ n1_; intro BKBD HB; (try clear hb); obtain ⟨hcz9_0, hcz9_1, hcz9_2, hcz9_3, hfz9_0, hfz9_1, hfz9_2, hfz9_3⟩ := blk4 BKBD.out) | ((with_reducible refine gate_callee (f := 131) rfl ?_); refine goesL_ (some 16) rfl rfl Try.func131 (by kernel_rfl) rfl #[.int .i64 a1, .int .i64 0, .int .i64 a0_0] rfl argS ?_; (with_reducible refine (impl_within.calls a1 0 a0_0 true _ A4.out).mono ?_); rintro e w' ⟨rfl, ⟨nd, rfl⟩⟩; refine ⟨_, rfl, ?_⟩))
  go_ret
  exact ⟨rfE, by exact belS⟩
 ·replace c5 := Bool.eq_false_iff.mpr c5
  subst c5
  have H1 : (some false) = some r := by rw [if_neg (show ¬ (false = true) by decide)] at H; exact H
  clear H
  have H := H1
  clear H1
  obtain rfl := Option.some.inj H
  go_enter Try.func166, Try.ntmps166
  go_wp2_with (first | ((with_reducible refine gate_dst (N := 2) rfl ?_); refine box_event (by rfl) (N := 2) (by rfl) (cs := #[.int .i64 a0_0, .int .i64 a0_1, .int .i64 a0_2, .slice A0_3 l0_3.length c0_3]) (t := 32) hrS ?_; intro gbBD hg w10 hbox hb; have n0_ := Am (below_step belS hb); have n1_ := Am (hbox); have n2_ := Am (geS hg : w.heap.size ≤ gbBD); have n3_ := n2_; clear HB; revert n0_ n1_ n2_ n3_; intro HB BKBD GWBD GEBD; clear hb hbox hg; obtain ⟨hcz11_0, hcz11_1, hcz11_2, hcz11_3, hfz11_0, hfz11_1, hfz11_2, hfz11_3⟩ := blk4 BKBD.out) | ((with_reducible refine gate_callee (f := 132) rfl ?_); refine goesL_ (some 10) rfl rfl Try.func132 (by kernel_rfl) rfl #[.agg #[.int .i64 a0_0, .int .i64 a0_1, .int .i64 a0_2, .slice A0_3 l0_3.length c0_3], .int .i64 a1] rfl argS ?_; (with_reducible refine (impl_Board_begins.calls k a0_0 a0_1 a0_2 _ _ l0_3 a1 tBE tBF _ ?side1 ?side2 A3.out).mono ?_); (case side1 => exact Kd.C_up (Kd.C_below HR0_3.out HB.out)); (case side2 => exact HC0_3.out); rintro e w12 ⟨rfl, hb⟩; refine ⟨_, rfl, ?_⟩; have n0_ := Am (blk_below (blk_up BKBD.out) hb); have n1_ := Am (below_step belS hb); clear BKBD HB; revert n0_ n1_; intro BKBD HB; (try clear hb); obtain ⟨hcz13_0, hcz13_1, hcz13_2, hcz13_3, hfz13_0, hfz13_1, hfz13_2, hfz13_3⟩ := blk4 BKBD.out) | ((with_reducible refine gate_callee (f := 131) rfl ?_); refine goesL_ (some 16) rfl rfl Try.func131 (by kernel_rfl) rfl #[.int .i64 a1, .int .i64 0, .int .i64 a0_0] rfl argS ?_; (with_reducible refine (impl_within.calls a1 0 a0_0 false _ A4.out).mono ?_); rintro e w' ⟨rfl, ⟨nd, rfl⟩⟩; refine ⟨_, rfl, ?_⟩))
  go_ret
  exact ⟨rfE, by exact belS⟩

end

section
/-! ### impl_Board_landing: function 197 -/
def impl_Board_landing.f (a0_0 : Int) (a0_1 : Int) (a0_2 : Int) (l0_3 : List (S27)) (a1 : Int) (a2 : Int) : Option (Int × Bool) := if a1 = a0_0 then (some (a1, false)) else (if (wrap64 (a1 + a2)) ≤ a0_0 then (some (wrap64 (a1 + a2), true)) else (if a0_2 = 1 then (some (a0_0, true)) else (if a0_2 = 2 then (if (wrap64 ((wrap64 (2 * a0_0)) - (wrap64 (a1 + a2)))) ≥ 0 then (some (wrap64 ((wrap64 (2 * a0_0)) - (wrap64 (a1 + a2))), true)) else (some (a1, false))) else (some (a1, false)))))
set_option maxHeartbeats 8000000 in
set_option maxRecDepth 100000 in
theorem impl_Board_landing.calls (a0_0 : Int) (a0_1 : Int) (a0_2 : Int) (A0_3 : Option Addr) (c0_3 : Nat) (l0_3 : List (S27)) (a1 : Int) (a2 : Int) (r1 : Int) (r2 : Bool) (w : World) (hr0_3 : Kd.C k27 w A0_3 l0_3.length l0_3) (hc0_3 : l0_3.length ≤ c0_3) (h : impl_Board_landing.f a0_0 a0_1 a0_2 l0_3 a1 a2 = some (r1, r2)) :
  Calls Try.prog 197 #[.agg #[.int .i64 a0_0, .int .i64 a0_1, .int .i64 a0_2, .slice A0_3 l0_3.length c0_3], .int .i64 a1, .int .i64 a2] w fun e w' => e = .returned (.tuple #[.int .i64 r1, .bool r2]) ∧ Below w.heap.size w w' := by
 have hu32 := Try.underlying32
 have HR0_3 := Am hr0_3
 have HC0_3 := Am hc0_3
 clear hr0_3 hc0_3
 have HB := Am (Below.refl w.heap.size w)
 have H : (if a1 = a0_0 then (some (a1, false)) else (if (wrap64 (a1 + a2)) ≤ a0_0 then (some (wrap64 (a1 + a2), true)) else (if a0_2 = 1 then (some (a0_0, true)) else (if a0_2 = 2 then (if (wrap64 ((wrap64 (2 * a0_0)) - (wrap64 (a1 + a2)))) ≥ 0 then (some (wrap64 ((wrap64 (2 * a0_0)) - (wrap64 (a1 + a2))), true)) else (some (a1, false))) else (some (a1, false)))))) = some (r1, r2) := h
 clear h
 by_cases c4 : a1 = a0_0
 ·rw [if_pos c4] at H
  have c4b0 : (a1 == a0_0) = true := beq_iff_eq.mpr c4
  have c4b1 : (a1 != a0_0) = false := bne_eq_false_iff_eq.mpr c4
  clear c4
  simp only [Option.some.injEq, Prod.mk.injEq] at H
  obtain ⟨rfl, rfl⟩ := H
  go_enter Try.func197, Try.ntmps197
  go_wp2_with (first | ((with_reducible refine gate_dst (N := 3) rfl ?_); refine box_event (by rfl) (N := 3) (by rfl) (cs := #[.int .i64 a0_0, .int .i64 a0_1, .int .i64 a0_2, .slice A0_3 l0_3.length c0_3]) (t := 32) hrS ?_; intro gbBD hg w5 hbox hb; have n0_ := Am (below_step belS hb); have n1_ := Am (hbox); have n2_ := Am (geS hg : w.heap.size ≤ gbBD); have n3_ := n2_; clear HB; revert n0_ n1_ n2_ n3_; intro HB BKBD GWBD GEBD; clear hb hbox hg; obtain ⟨hcz6_0, hcz6_1, hcz6_2, hcz6_3, hfz6_0, hfz6_1, hfz6_2, hfz6_3⟩ := blk4 BKBD.out))
  go_ret2
  exact ⟨rfE, by exact belS⟩
 ·rw [if_neg c4] at H
  have c4b0 : (a1 == a0_0) = false := beq_eq_false_iff_ne.mpr c4
  have c4b1 : (a1 != a0_0) = true := bne_iff_ne.mpr c4
  by_cases c7 : (wrap64 (a1 + a2)) ≤ a0_0
  ·rw [if_pos c7] at H
   have c7b0 : decide ((wrap64 (a1 + a2)) ≤ a0_0) = true := decide_eq_true c7
   clear c7
   simp only [Option.some.injEq, Prod.mk.injEq] at H
   obtain ⟨rfl, rfl⟩ := H
   go_enter Try.func197, Try.ntmps197
   go_wp2_with (first | ((with_reducible refine gate_dst (N := 3) rfl ?_); refine box_event (by rfl) (N := 3) (by rfl) (cs := #[.int .i64 a0_0, .int .i64 a0_1, .int .i64 a0_2, .slice A0_3 l0_3.length c0_3]) (t := 32) hrS ?_; intro gbBD hg w8 hbox hb; have n0_ := Am (below_step belS hb); have n1_ := Am (hbox); have n2_ := Am (geS hg : w.heap.size ≤ gbBD); have n3_ := n2_; clear HB; revert n0_ n1_ n2_ n3_; intro HB BKBD GWBD GEBD; clear hb hbox hg; obtain ⟨hcz9_0, hcz9_1, hcz9_2, hcz9_3, hfz9_0, hfz9_1, hfz9_2, hfz9_3⟩ := blk4 BKBD.out))
   go_ret2
   exact ⟨rfE, by exact belS⟩
  ·rw [if_neg c7] at H
   have c7b0 : decide ((wrap64 (a1 + a2)) ≤ a0_0) = false := decide_eq_false c7
   clear c7
   by_cases c10 : a0_2 = 1
   ·rw [if_pos c10] at H
    have c10b0 : (a0_2 == 1) = true := beq_iff_eq.mpr c10
    have c10b1 : (a0_2 != 1) = false := bne_eq_false_iff_eq.mpr c10
    clear c10
    simp only [Option.some.injEq, Prod.mk.injEq] at H
    obtain ⟨rfl, rfl⟩ := H
    go_enter Try.func197, Try.ntmps197
    go_wp2_with (first | ((with_reducible refine gate_dst (N := 3) rfl ?_); refine box_event (by rfl) (N := 3) (by rfl) (cs := #[.int .i64 a0_0, .int .i64 a0_1, .int .i64 a0_2, .slice A0_3 l0_3.length c0_3]) (t := 32) hrS ?_; intro gbBD hg w11 hbox hb; have n0_ := Am (below_step belS hb); have n1_ := Am (hbox); have n2_ := Am (geS hg : w.heap.size ≤ gbBD); have n3_ := n2_; clear HB; revert n0_ n1_ n2_ n3_; intro HB BKBD GWBD GEBD; clear hb hbox hg; obtain ⟨hcz12_0, hcz12_1, hcz12_2, hcz12_3, hfz12_0, hfz12_1, hfz12_2, hfz12_3⟩ := blk4 BKBD.out))
    go_ret2
    exact ⟨rfE, by exact belS⟩
   ·rw [if_neg c10] at H
    have c10b0 : (a0_2 == 1) = false := beq_eq_false_iff_ne.mpr c10
    have c10b1 : (a0_2 != 1) = true := bne_iff_ne.mpr c10
    by_cases c13 : a0_2 = 2
    ·rw [if_pos c13] at H
     have c13b0 : (a0_2 == 2) = true := beq_iff_eq.mpr c13
     have c13b1 : (a0_2 != 2) = false := bne_eq_false_iff_eq.mpr c13
     clear c13
     by_cases c14 : (wrap64 ((wrap64 (2 * a0_0)) - (wrap64 (a1 + a2)))) ≥ 0
     ·rw [if_pos c14] at H
      have c14b0 : decide (0 ≤ (wrap64 ((wrap64 (2 * a0_0)) - (wrap64 (a1 + a2))))) = true := decide_eq_true c14
      clear c14
      simp only [Option.some.injEq, Prod.mk.injEq] at H
      obtain ⟨rfl, rfl⟩ := H
      go_enter Try.func197, Try.ntmps197
      go_wp2_with (first | ((with_reducible refine gate_dst (N := 3) rfl ?_); refine box_event (by rfl) (N := 3) (by rfl) (cs := #[.int .i64 a0_0, .int .i64 a0_1, .int .i64 a0_2, .slice A0_3 l0_3.length c0_3]) (t := 32) hrS ?_; intro gbBD hg w15 hbox hb; have n0_ := Am (below_step belS hb); have n1_ := Am (hbox); have n2_ := Am (geS hg : w.heap.size ≤ gbBD); have n3_ := n2_; clear HB; revert n0_ n1_ n2_ n3_; intro HB BKBD GWBD GEBD; clear hb hbox hg; obtain ⟨hcz16_0, hcz16_1, hcz16_2, hcz16_3, hfz16_0, hfz16_1, hfz16_2, hfz16_3⟩ := blk4 BKBD.out))
      go_ret2
      exact ⟨rfE, by exact belS⟩
     ·rw [if_neg c14] at H
      have c14b0 : decide (0 ≤ (wrap64 ((wrap64 (2 * a0_0)) - (wrap64 (a1 + a2))))) = false := decide_eq_false c14
      clear c14
      simp only [Option.some.injEq, Prod.mk.injEq] at H
      obtain ⟨rfl, rfl⟩ := H
      go_enter Try.func197, Try.ntmps197
      go_wp2_with (first | ((with_reducible refine gate_dst (N := 3) rfl ?_); refine box_event (by rfl) (N := 3) (by rfl) (cs := #[.int .i64 a0_0, .int .i64 a0_1, .int .i64 a0_2, .slice A0_3 l0_3.length c0_3]) (t := 32) hrS ?_; intro gbBD hg w17 hbox hb; have n0_ := Am (below_step belS hb); have n1_ := Am (hbox); have n2_ := Am (geS hg : w.heap.size ≤ gbBD); have n3_ := n2_; clear HB; revert n0_ n1_ n2_ n3_; intro HB BKBD GWBD GEBD; clear hb hbox hg; obtain ⟨hcz18_0, hcz18_1, hcz18_2, hcz18_3, hfz18_0, hfz18_1, hfz18_2, hfz18_3⟩ := blk4 BKBD.out))
      go_ret2
      exact ⟨rfE, by exact belS⟩
    ·rw [if_neg c13] at H
     have c13b0 : (a0_2 == 2) = false := beq_eq_false_iff_ne.mpr c13
     have c13b1 : (a0_2 != 2) = true := bne_iff_ne.mpr c13
     simp only [Option.some.injEq, Prod.mk.injEq] at H
     obtain ⟨rfl, rfl⟩ := H
     go_enter Try.func197, Try.ntmps197
     go_wp2_with (first | ((with_reducible refine gate_dst (N := 3) rfl ?_); refine box_event (by rfl) (N := 3) (by rfl) (cs := #[.int .i64 a0_0, .int .i64 a0_1, .int .i64 a0_2, .slice A0_3 l0_3.length c0_3]) (t := 32) hrS ?_; intro gbBD hg w19 hbox hb; have n0_ := Am (below_step belS hb); have n1_ := Am (hbox); have n2_ := Am (geS hg : w.heap.size ≤ gbBD); have n3_ := n2_; clear HB; revert n0_ n1_ n2_ n3_; intro HB BKBD GWBD GEBD; clear hb hbox hg; obtain ⟨hcz20_0, hcz20_1, hcz20_2, hcz20_3, hfz20_0, hfz20_1, hfz20_2, hfz20_3⟩ := blk4 BKBD.out))
     go_ret2
     exact ⟨rfE, by exact belS⟩

end

section
/-! ### impl_Board_throw: function 138 -/
def impl_Board_throw.f (k : Nat) (a0_0 : Int) (a0_1 : Int) (a0_2 : Int) (l0_3 : List (S27)) (a1 : Int) (a2 : Int) : Option (Int) := (impl_Board_landing.f a0_0 a0_1 a0_2 l0_3 a1 a2).bind fun btBE => (if btBE.2 = true then ((impl_Board_begins.f k a0_0 a0_1 a0_2 l0_3 btBE.1).bind fun btBG => (some btBG.1)) else (some a1))
set_option maxHeartbeats 8000000 in
set_option maxRecDepth 100000 in
theorem impl_Board_throw.calls (k : Nat) (a0_0 : Int) (a0_1 : Int) (a0_2 : Int) (A0_3 : Option Addr) (c0_3 : Nat) (l0_3 : List (S27)) (a1 : Int) (a2 : Int) (r : Int) (w : World) (hr0_3 : Kd.C k27 w A0_3 l0_3.length l0_3) (hc0_3 : l0_3.length ≤ c0_3) (h : impl_Board_throw.f k a0_0 a0_1 a0_2 l0_3 a1 a2 = some r) :
  Calls Try.prog 138 #[.agg #[.int .i64 a0_0, .int .i64 a0_1, .int .i64 a0_2, .slice A0_3 l0_3.length c0_3], .int .i64 a1, .int .i64 a2] w fun e w' => e = .returned (.int .i64 r) ∧ Below w.heap.size w w' := by
 have hu32 := Try.underlying32
 have HR0_3 := Am hr0_3
 have HC0_3 := Am hc0_3
 clear hr0_3 hc0_3
 have HB := Am (Below.refl w.heap.size w)
 have H : ((impl_Board_landing.f a0_0 a0_1 a0_2 l0_3 a1 a2).bind fun btBE => (if btBE.2 = true then ((impl_Board_begins.f k a0_0 a0_1 a0_2 l0_3 btBE.1).bind fun btBG => (some btBG.1)) else (some a1))) = some r := h
 clear h
 replace H := Option.bind_eq_some_iff.mp H
 obtain ⟨⟨tBE, tBF⟩, A40, H⟩ := H
 replace H : (if tBF = true then ((impl_Board_begins.f k a0_0 a0_1 a0_2 l0_3 tBE).bind fun btBG => (some btBG.1)) else (some a1)) = some r := H
 have A4 := Am A40
 clear A40
 by_cases c5 : tBF = true
 ·subst c5
  have H1 : ((impl_Board_begins.f k a0_0 a0_1 a0_2 l0_3 tBE).bind fun btBG => (some btBG.1)) = some r := by rw [if_pos rfl] at H; exact H
  clear H
  have H := H1
  clear H1
  replace H := Option.bind_eq_some_iff.mp H
  obtain ⟨⟨tBG, tBH⟩, A60, H⟩ := H
  replace H : (some tBG) = some r := H
  have A6 := Am A60
  clear A60
  obtain rfl := Option.some.inj H
  go_enter Try.func138, Try.ntmps138
  go_wp2_with (first | ((with_reducible refine gate_dst (N := 3) rfl ?_); refine box_event (by rfl) (N := 3) (by rfl) (cs := #[.int .i64 a0_0, .int .i64 a0_1, .int .i64 a0_2, .slice A0_3 l0_3.length c0_3]) (t := 32) hrS ?_; intro gbBD hg w7 hbox hb; have n0_ := Am (below_step belS hb); have n1_ := Am (hbox); have n2_ := Am (geS hg : w.heap.size ≤ gbBD); have n3_ := n2_; clear HB; revert n0_ n1_ n2_ n3_; intro HB BKBD GWBD GEBD; clear hb hbox hg; obtain ⟨hcz8_0, hcz8_1, hcz8_2, hcz8_3, hfz8_0, hfz8_1, hfz8_2, hfz8_3⟩ := blk4 BKBD.out) | ((with_reducible refine gate_callee (f := 197) rfl ?_); refine goesL_ (some 13) rfl rfl Try.func197 (by kernel_rfl) rfl #[.agg #[.int .i64 a0_0, .int .i64 a0_1, .int .i64 a0_2, .slice A0_3 l0_3.length c0_3], .int .i64 a1, .int .i64 a2] rfl argS ?_; (with_reducible refine (impl_Board_landing.calls a0_0 a0_1 a0_2 _ _ l0_3 a1 a2 tBE true _ ?side1 ?side2 A4.out).mono ?_); (case side1 => exact Kd.C_up (Kd.C_below HR0_3.out HB.out)); (case side2 => exact HC0_3.out); rintro e w9 ⟨rfl, hb⟩; refine ⟨_, rfl, ?_⟩; have n0_ := Am (blk_below (blk_up BKBD.out) hb); have n1_ := Am (below_step belS hb); clear BKBD HB; revert n0_ n1_; intro BKBD HB; (try clear hb); obtain ⟨hcz10_0, hcz10_1, hcz10_2, hcz10_3, hfz10_0, hfz10_1, hfz10_2, hfz10_3⟩ := blk4 BKBD.out) | ((with_reducible refine gate_callee (f := 132) rfl ?_); refine goesL_ (some 22) rfl rfl Try.func132 (by kernel_rfl) rfl #[.agg #[.int .i64 a0_0, .int .i64 a0_1, .int .i64 a0_2, .slice A0_3 l0_3.length c0_3], .int .i64 tBE] rfl argS ?_; (with_reducible refine (impl_Board_begins.calls k a0_0 a0_1 a0_2 _ _ l0_3 tBE tBG tBH _ ?side1 ?side2 A6.out).mono ?_); (case side1 => exact Kd.C_up (Kd.C_below HR0_3.out HB.out)); (case side2 => exact HC0_3.out); rintro e w11 ⟨rfl, hb⟩; refine ⟨_, rfl, ?_⟩; have n0_ := Am (blk_below (blk_up BKBD.out) hb); have n1_ := Am (below_step belS hb); clear BKBD HB; revert n0_ n1_; intro BKBD HB; (try clear hb)))
  go_ret
  exact ⟨rfE, by exact belS⟩
 ·replace c5 := Bool.eq_false_iff.mpr c5
  subst c5
  have H1 : (some a1) = some r := by rw [if_neg (show ¬ (false = true) by decide)] at H; exact H
  clear H
  have H := H1
  clear H1
  obtain rfl := Option.some.inj H
  go_enter Try.func138, Try.ntmps138
  go_wp2_with (first | ((with_reducible refine gate_dst (N := 3) rfl ?_); refine box_event (by rfl) (N := 3) (by rfl) (cs := #[.int .i64 a0_0, .int .i64 a0_1, .int .i64 a0_2, .slice A0_3 l0_3.length c0_3]) (t := 32) hrS ?_; intro gbBD hg w12 hbox hb; have n0_ := Am (below_step belS hb); have n1_ := Am (hbox); have n2_ := Am (geS hg : w.heap.size ≤ gbBD); have n3_ := n2_; clear HB; revert n0_ n1_ n2_ n3_; intro HB BKBD GWBD GEBD; clear hb hbox hg; obtain ⟨hcz13_0, hcz13_1, hcz13_2, hcz13_3, hfz13_0, hfz13_1, hfz13_2, hfz13_3⟩ := blk4 BKBD.out) | ((with_reducible refine gate_callee (f := 197) rfl ?_); refine goesL_ (some 13) rfl rfl Try.func197 (by kernel_rfl) rfl #[.agg #[.int .i64 a0_0, .int .i64 a0_1, .int .i64 a0_2, .slice A0_3 l0_3.length c0_3], .int .i64 a1, .int .i64 a2] rfl argS ?_; (with_reducible refine (impl_Board_landing.calls a0_0 a0_1 a0_2 _ _ l0_3 a1 a2 tBE false _ ?side1 ?side2 A4.out).mono ?_); (case side1 => exact Kd.C_up (Kd.C_below HR0_3.out HB.out)); (case side2 => exact HC0_3.out); rintro e w14 ⟨rfl, hb⟩; refine ⟨_, rfl, ?_⟩; have n0_ := Am (blk_below (blk_up BKBD.out) hb); have n1_ := Am (below_step belS hb); clear BKBD HB; revert n0_ n1_; intro BKBD HB; (try clear hb)))
  go_ret
  exact ⟨rfE, by exact belS⟩

end

end Go.Proofs.Ytkobjjadojpjfaa.Pr
