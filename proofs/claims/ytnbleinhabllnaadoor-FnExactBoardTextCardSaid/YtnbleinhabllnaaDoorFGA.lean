-- A text of the machine side, written by wip/gen.py of this repo out of the translation. Not trusted: Lean checks it.
import Derived.Test.YtnbleinhabllnaaDoorF0
namespace Go.Proofs.YtnbleinhabllnaaDoor.Pr
open Go.RowKit Go.Proofs.YtnbleinhabllnaaDoorW.PrintWords Go.Proofs.YtnbleinhabllnaaDoorW.PrintLast Go.Proofs.YtnbleinhabllnaaDoorW.PrintMore
attribute [local go_sem] max2_int min2_int max_two min_two max_three min_three max_four min_four   -- for this text's walks alone
set_option linter.unusedVariables false
set_option linter.unusedSimpArgs false

section
/-! ### laws_eqJump: function 53 -/
def laws_eqJump.f (a0_0 : Int) (a0_1 : Int) (a1_0 : Int) (a1_1 : Int) : Option (Bool) := if a0_0 = a1_0 then (if a0_1 = a1_1 then (some true) else (some false)) else (some false)
set_option maxHeartbeats 8000000 in
set_option maxRecDepth 100000 in
theorem laws_eqJump.calls (a0_0 : Int) (a0_1 : Int) (a1_0 : Int) (a1_1 : Int) (r : Bool) (w : World) (h : laws_eqJump.f a0_0 a0_1 a1_0 a1_1 = some r) :
  Calls Tryd.prog 53 #[.agg #[.int .i64 a0_0, .int .i64 a0_1], .agg #[.int .i64 a1_0, .int .i64 a1_1]] w fun e w' => e = .returned (.bool r) ∧ Below w.heap.size w w' := by
 have hu61 := Tryd.underlying61
 have HB := Am (Below.refl w.heap.size w)
 have H : (if a0_0 = a1_0 then (if a0_1 = a1_1 then (some true) else (some false)) else (some false)) = some r := h
 clear h
 by_cases c3 : a0_0 = a1_0
 ·rw [if_pos c3] at H
  have c3b0 : (a0_0 == a1_0) = true := beq_iff_eq.mpr c3
  have c3b1 : (a0_0 != a1_0) = false := bne_eq_false_iff_eq.mpr c3
  clear c3
  by_cases c4 : a0_1 = a1_1
  ·rw [if_pos c4] at H
   have c4b0 : (a0_1 == a1_1) = true := beq_iff_eq.mpr c4
   have c4b1 : (a0_1 != a1_1) = false := bne_eq_false_iff_eq.mpr c4
   clear c4
   obtain rfl := Option.some.inj H
   go_enter Tryd.func53, Tryd.ntmps53
   go_wp2_with (first | ((with_reducible refine gate_dst (N := 2) rfl ?_); refine box_event (by rfl) (N := 2) (by rfl) (cs := #[.int .i64 a0_0, .int .i64 a0_1]) (t := 61) hrS ?_; intro gbBD hg w5 hbox hb; have n0_ := Am (below_step belS hb); have n1_ := Am (hbox); have n2_ := Am (geS hg : w.heap.size ≤ gbBD); have n3_ := n2_; clear HB; revert n0_ n1_ n2_ n3_; intro HB BKBD GWBD GEBD; clear hb hbox hg) | ((with_reducible refine gate_dst (N := 3) rfl ?_); refine box_event (by rfl) (N := 3) (by rfl) (cs := #[.int .i64 a1_0, .int .i64 a1_1]) (t := 61) hrS ?_; intro gbBE hg w6 hbox hb; have n0_ := Am (blk_below (blk_up BKBD.out) hb); have n1_ := Am (below_step belS hb); have n2_ := Am (hbox); have n3_ := Am (geS hg : w.heap.size ≤ gbBE); have n4_ := n3_; have n5_ := Am ((by rw [hg]; exact Nat.ne_of_lt (blk_lt (blk_up BKBD.out)) : gbBD ≠ gbBE)); have n6_ := Am ((by rw [hg]; exact Nat.ne_of_gt (blk_lt (blk_up BKBD.out)) : gbBE ≠ gbBD)); clear BKBD HB; revert n0_ n1_ n2_ n3_ n4_ n5_ n6_; intro BKBD HB BKBE GWBE GEBE NBBD_BE NBBE_BD; clear hb hbox hg; have hnb7 := NBBD_BE.out; have hnc7 := NBBE_BD.out; obtain ⟨hcz8_0, hcz8_1, hfz8_0, hfz8_1⟩ := blk2 BKBD.out; obtain ⟨hcz9_0, hcz9_1, hfz9_0, hfz9_1⟩ := blk2 BKBE.out))
   go_ret
   exact ⟨rfE, by exact belS⟩
  ·rw [if_neg c4] at H
   have c4b0 : (a0_1 == a1_1) = false := beq_eq_false_iff_ne.mpr c4
   have c4b1 : (a0_1 != a1_1) = true := bne_iff_ne.mpr c4
   obtain rfl := Option.some.inj H
   go_enter Tryd.func53, Tryd.ntmps53
   go_wp2_with (first | ((with_reducible refine gate_dst (N := 2) rfl ?_); refine box_event (by rfl) (N := 2) (by rfl) (cs := #[.int .i64 a0_0, .int .i64 a0_1]) (t := 61) hrS ?_; intro gbBD hg w10 hbox hb; have n0_ := Am (below_step belS hb); have n1_ := Am (hbox); have n2_ := Am (geS hg : w.heap.size ≤ gbBD); have n3_ := n2_; clear HB; revert n0_ n1_ n2_ n3_; intro HB BKBD GWBD GEBD; clear hb hbox hg) | ((with_reducible refine gate_dst (N := 3) rfl ?_); refine box_event (by rfl) (N := 3) (by rfl) (cs := #[.int .i64 a1_0, .int .i64 a1_1]) (t := 61) hrS ?_; intro gbBE hg w11 hbox hb; have n0_ := Am (blk_below (blk_up BKBD.out) hb); have n1_ := Am (below_step belS hb); have n2_ := Am (hbox); have n3_ := Am (geS hg : w.heap.size ≤ gbBE); have n4_ := n3_; have n5_ := Am ((by rw [hg]; exact Nat.ne_of_lt (blk_lt (blk_up BKBD.out)) : gbBD ≠ gbBE)); have n6_ := Am ((by rw [hg]; exact Nat.ne_of_gt (blk_lt (blk_up BKBD.out)) : gbBE ≠ gbBD)); clear BKBD HB; revert n0_ n1_ n2_ n3_ n4_ n5_ n6_; intro BKBD HB BKBE GWBE GEBE NBBD_BE NBBE_BD; clear hb hbox hg; have hnb12 := NBBD_BE.out; have hnc12 := NBBE_BD.out; obtain ⟨hcz13_0, hcz13_1, hfz13_0, hfz13_1⟩ := blk2 BKBD.out; obtain ⟨hcz14_0, hcz14_1, hfz14_0, hfz14_1⟩ := blk2 BKBE.out))
   go_ret
   exact ⟨rfE, by exact belS⟩
 ·rw [if_neg c3] at H
  have c3b0 : (a0_0 == a1_0) = false := beq_eq_false_iff_ne.mpr c3
  have c3b1 : (a0_0 != a1_0) = true := bne_iff_ne.mpr c3
  obtain rfl := Option.some.inj H
  go_enter Tryd.func53, Tryd.ntmps53
  go_wp2_with (first | ((with_reducible refine gate_dst (N := 2) rfl ?_); refine box_event (by rfl) (N := 2) (by rfl) (cs := #[.int .i64 a0_0, .int .i64 a0_1]) (t := 61) hrS ?_; intro gbBD hg w15 hbox hb; have n0_ := Am (below_step belS hb); have n1_ := Am (hbox); have n2_ := Am (geS hg : w.heap.size ≤ gbBD); have n3_ := n2_; clear HB; revert n0_ n1_ n2_ n3_; intro HB BKBD GWBD GEBD; clear hb hbox hg) | ((with_reducible refine gate_dst (N := 3) rfl ?_); refine box_event (by rfl) (N := 3) (by rfl) (cs := #[.int .i64 a1_0, .int .i64 a1_1]) (t := 61) hrS ?_; intro gbBE hg w16 hbox hb; have n0_ := Am (blk_below (blk_up BKBD.out) hb); have n1_ := Am (below_step belS hb); have n2_ := Am (hbox); have n3_ := Am (geS hg : w.heap.size ≤ gbBE); have n4_ := n3_; have n5_ := Am ((by rw [hg]; exact Nat.ne_of_lt (blk_lt (blk_up BKBD.out)) : gbBD ≠ gbBE)); have n6_ := Am ((by rw [hg]; exact Nat.ne_of_gt (blk_lt (blk_up BKBD.out)) : gbBE ≠ gbBD)); clear BKBD HB; revert n0_ n1_ n2_ n3_ n4_ n5_ n6_; intro BKBD HB BKBE GWBE GEBE NBBD_BE NBBE_BD; clear hb hbox hg; have hnb17 := NBBD_BE.out; have hnc17 := NBBE_BD.out; obtain ⟨hcz18_0, hcz18_1, hfz18_0, hfz18_1⟩ := blk2 BKBD.out; obtain ⟨hcz19_0, hcz19_1, hfz19_0, hfz19_1⟩ := blk2 BKBE.out))
  go_ret
  exact ⟨rfE, by exact belS⟩

end

section
abbrev bLawsEqJumpS_0 : Array Bool := #[false, false, false, false, false, false, false, false, false, false]
abbrev bLawsEqJumpS_9 : Array Bool := #[true, true, true, true, true, true, true, true, true, false]
/-! ### laws_eqJumpS: function 32 -/
def laws_eqJumpS.l0 : Nat → List (S61) → List (S61) → Int → Option (Bool)
 | 0, _, _, _ => none
 | k + 1, x0, x1, x5 => if x5 < (x0.length : Int) then (if 0 ≤ x5 then (if x5 < (x1.length : Int) then ((laws_eqJump.f ((rd_T61 x0 x5).f0) ((rd_T61 x0 x5).f1) ((rd_T61 x1 x5).f0) ((rd_T61 x1 x5).f1)).bind fun tBF => (if tBF = true then (laws_eqJumpS.l0 k x0 x1 (wrap64 (x5 + 1))) else (some false))) else (none)) else (none)) else (some true)
def laws_eqJumpS.f (k : Nat) (l0 : List (S61)) (l1 : List (S61)) : Option (Bool) := if (l0.length : Int) = (l1.length : Int) then (laws_eqJumpS.l0 k l0 l1 0) else (some false)
def laws_eqJumpS.T6 : Bool × List (List Nat × List Nat) := (true, [([], []), ([], []), ([0, 1], [0, 1]), ([2], [2]), ([], []), ([], []), ([4, 5], [4, 5]), ([6], [6]), ([3, 7], [3, 7]), ([8], [8])])
def laws_eqJumpS.B6 : List Nat := [0, 0, 3, 7, 0, 0, 48, 112, 255, 511]
theorem laws_eqJumpS.tab6 : rtab .any (opsOf Tryd.f32 6) = laws_eqJumpS.T6 := by kernel_rfl
theorem laws_eqJumpS.bits6 : waitsOk laws_eqJumpS.T6.2 laws_eqJumpS.B6 = true := by kernel_rfl
set_option maxHeartbeats 8000000 in
set_option maxRecDepth 100000 in
theorem laws_eqJumpS.calls (k : Nat) (A0 : Option Addr) (c0 : Nat) (l0 : List (S61)) (A1 : Option Addr) (c1 : Nat) (l1 : List (S61)) (r : Bool) (w : World) (hr0 : Kd.C k61 w A0 l0.length l0) (hc0 : l0.length ≤ c0) (hr1 : Kd.C k61 w A1 l1.length l1) (hc1 : l1.length ≤ c1) (h : laws_eqJumpS.f k l0 l1 = some r) :
  Calls Tryd.prog 32 #[.slice A0 l0.length c0, .slice A1 l1.length c1] w fun e w' => e = .returned (.bool r) ∧ Below w.heap.size w w' := by
 have hu61 := Tryd.underlying61
 have HR0 := Am hr0
 have HC0 := Am hc0
 clear hr0 hc0
 have HR1 := Am hr1
 have HC1 := Am hc1
 clear hr1 hc1
 have HB := Am (Below.refl w.heap.size w)
 have H : (if (l0.length : Int) = (l1.length : Int) then (laws_eqJumpS.l0 k l0 l1 0) else (some false)) = some r := h
 clear h
 by_cases c3 : (l0.length : Int) = (l1.length : Int)
 ·rw [if_pos c3] at H
  have c3b0 : ((l0.length : Int) == (l1.length : Int)) = true := beq_iff_eq.mpr c3
  have c3b1 : ((l0.length : Int) != (l1.length : Int)) = false := bne_eq_false_iff_eq.mpr c3
  have c3b2 : (l0.length == l1.length) = true := by first | simpa using c3 | (simp at c3 ⊢; omega)
  clear c3
  have H' := Am H
  clear H
  go_enter Tryd.func32, Tryd.ntmps32
  go_wp2
  go_loopg [5] k (fun kq v5 w' => ∃ (x5_1 : Int), v5 = .int .i64 x5_1 ∧ Aside0 (laws_eqJumpS.l0 kq l0 l1 x5_1 = some r) ∧ Aside0 (kq ≤ k) ∧ Aside0 (Below w.heap.size w w'))
  case atStart => exact ⟨(0), rfS, H', ⟨Nat.le_refl _⟩, ⟨by exact belS⟩⟩
  case round =>
   clear H'
   try clear c1
   try clear c3
   try clear c3b0
   try clear c3b1
   try clear c3b2
   obtain ⟨x5_1, rfl, HA, HK1, HB⟩ := hrel
   cases gk with
   | zero => exact absurd HA.out (by simp [laws_eqJumpS.l0])
   | succ k1 =>
    have H := HA.out
    clear HA
    simp only [laws_eqJumpS.l0] at H
    by_cases c4 : x5_1 < (l0.length : Int)
    ·rw [if_pos c4] at H
     have c4b0 : decide (x5_1 < (l0.length : Int)) = true := decide_eq_true c4
     clear c4
     by_cases c5 : 0 ≤ x5_1
     ·rw [if_pos c5] at H
      have c5b0 : decide (0 ≤ x5_1) = true := decide_eq_true c5
      clear c5
      by_cases c6 : x5_1 < (l1.length : Int)
      ·rw [if_pos c6] at H
       have c6b0 : decide (x5_1 < (l1.length : Int)) = true := decide_eq_true c6
       clear c6
       replace H := Option.bind_eq_some_iff.mp H
       obtain ⟨tBF, A70, H⟩ := H
       replace H : (if tBF = true then (laws_eqJumpS.l0 k1 l0 l1 (wrap64 (x5_1 + 1))) else (some false)) = some r := H
       have A7 := Am A70
       clear A70
       by_cases c8 : tBF = true
       ·subst c8
        have H1 : (laws_eqJumpS.l0 k1 l0 l1 (wrap64 (x5_1 + 1))) = some r := by rw [if_pos rfl] at H; exact H
        clear H
        have H := H1
        clear H1
        have H' := Am H
        clear H
        try go_wp2
        have n0_ := Am (below_drew1 HB.out)
        clear HB
        have HB := n0_
        clear n0_
        have pBD : 0 ≤ (x5_1 : Int) := ofd
        have qBD : x5_1 < (l0.length : Int) := ofd
        obtain ⟨adBD, eBD, hxBD_0, hxBD_1⟩ := at_T61 HR0.out x5_1 pBD qBD
        have hwBD_1 := hxBD_1
        have hwBD_0 := hxBD_0
        cases eBD
        first | (replace hxBD_0 := (HB.out.cell (World.block_lt_of_cell? w _ hxBD_0)).trans hxBD_0) | skip
        first | (replace hxBD_1 := (HB.out.cell (World.block_lt_of_cell? w _ hxBD_1)).trans hxBD_1) | skip
        replace pBD := eq_true pBD
        replace qBD := eq_true qBD
        have pBE : 0 ≤ (x5_1 : Int) := ofd
        have qBE : x5_1 < (l1.length : Int) := ofd
        obtain ⟨adBE, eBE, hxBE_0, hxBE_1⟩ := at_T61 HR1.out x5_1 pBE qBE
        have hwBE_1 := hxBE_1
        have hwBE_0 := hxBE_0
        cases eBE
        first | (replace hxBE_0 := (HB.out.cell (World.block_lt_of_cell? w _ hxBE_0)).trans hxBE_0) | skip
        first | (replace hxBE_1 := (HB.out.cell (World.block_lt_of_cell? w _ hxBE_1)).trans hxBE_1) | skip
        replace pBE := eq_true pBE
        replace qBE := eq_true qBE
        refine start_ (n := 10) (S := fun w' => w'.cell? (adBD.add ((x5_1).toNat * 2)) = some (.int .i64 ((rd_T61 l0 x5_1).f0)) ∧ w'.cell? ⟨(adBD.add ((x5_1).toNat * 2)).block, (adBD.add ((x5_1).toNat * 2)).off + 1, none⟩ = some (.int .i64 ((rd_T61 l0 x5_1).f1)) ∧ w'.cell? (adBE.add ((x5_1).toNat * 2)) = some (.int .i64 ((rd_T61 l1 x5_1).f0)) ∧ w'.cell? ⟨(adBE.add ((x5_1).toNat * 2)).block, (adBE.add ((x5_1).toNat * 2)).off + 1, none⟩ = some (.int .i64 ((rd_T61 l1 x5_1).f1))) (ds := []) bLawsEqJumpS_0 (by kernel_rfl) rfl rfl ⟨((HB.out.cell (World.block_lt_of_cell? w _ hwBD_0)).trans hwBD_0), ((HB.out.cell (World.block_lt_of_cell? w _ hwBD_1)).trans hwBD_1), ((HB.out.cell (World.block_lt_of_cell? w _ hwBE_0)).trans hwBE_0), ((HB.out.cell (World.block_lt_of_cell? w _ hwBE_1)).trans hwBE_1)⟩ (fun hHeld => ?_); refine with_tabW laws_eqJumpS.tab6 laws_eqJumpS.bits6 (fun HT_ HW_ => ?_)
        generalize wr.drew = w9 at HB hxBD_0 hxBD_1 hxBE_0 hxBE_1 hHeld ⊢
        refine puS 0 17 ?_
        refine puS 1 18 ?_
        refine puS 2 19 ?_
        refine puS 4 21 ?_
        refine puS 5 22 ?_
        refine puS 6 23 ?_
        refine tkS 3 20 ?_
        refine tkS 7 24 ?_
        refine one_ (i := 8) (N := some 25) bLawsEqJumpS_9 rfl rfl (one_of HT_.out (by kernel_rfl)) (by decide) (fun K hK => ?_)
        refine goes_ Tryd.func53 (by kernel_rfl) rfl #[.agg #[.int .i64 ((rd_T61 l0 x5_1).f0), .int .i64 ((rd_T61 l0 x5_1).f1)], .agg #[.int .i64 ((rd_T61 l1 x5_1).f0), .int .i64 ((rd_T61 l1 x5_1).f1)]] (by rfl) rfl rfl argS ?_
        with_reducible refine (laws_eqJump.calls ((rd_T61 l0 x5_1).f0) ((rd_T61 l0 x5_1).f1) ((rd_T61 l1 x5_1).f0) ((rd_T61 l1 x5_1).f1) true _ A7.out).mono ?_
        rintro e w10 ⟨rfl, hb⟩
        refine ⟨_, rfl, ?_⟩
        have n0_ := Am (below_step belS hb)
        clear HB
        have HB := n0_
        clear n0_
        (try clear hb)
        (try clear hb2)
        (try clear hk)
        (try clear hi)
        refine hK.out _ _ ⟨((HB.out.cell (World.block_lt_of_cell? w _ hwBD_0)).trans hwBD_0), ((HB.out.cell (World.block_lt_of_cell? w _ hwBD_1)).trans hwBD_1), ((HB.out.cell (World.block_lt_of_cell? w _ hwBE_0)).trans hwBE_0), ((HB.out.cell (World.block_lt_of_cell? w _ hwBE_1)).trans hwBE_1)⟩ (fun hHeld => ?_)
        clear hK K
        refine norm_ (a' := ?_) ?_ ?_
        rotate_left
        ·show Act.put _ (some 25) _ = _
         simp only [Act.put, sA_, sB_, sC_, i64_w, i32_w]
         rfl
        refine puS 9 26 ?_
        refine done_ (done_of HT_.out (by kernel_rfl)) ?_
        try go_wp2
        go_roundg k1
        case measure => have := HK1.out; omega
        case rel => exact ⟨(wrap64 (x5_1 + 1)), rfS, H', ⟨by have := HK1.out; omega⟩, ⟨by exact belS⟩⟩
       ·replace c8 := Bool.eq_false_iff.mpr c8
        subst c8
        have H1 : (some false) = some r := by rw [if_neg (show ¬ (false = true) by decide)] at H; exact H
        clear H
        have H := H1
        clear H1
        obtain rfl := Option.some.inj H
        try go_wp2
        have n0_ := Am (below_drew1 HB.out)
        clear HB
        have HB := n0_
        clear n0_
        have pBD : 0 ≤ (x5_1 : Int) := ofd
        have qBD : x5_1 < (l0.length : Int) := ofd
        obtain ⟨adBD, eBD, hxBD_0, hxBD_1⟩ := at_T61 HR0.out x5_1 pBD qBD
        have hwBD_1 := hxBD_1
        have hwBD_0 := hxBD_0
        cases eBD
        first | (replace hxBD_0 := (HB.out.cell (World.block_lt_of_cell? w _ hxBD_0)).trans hxBD_0) | skip
        first | (replace hxBD_1 := (HB.out.cell (World.block_lt_of_cell? w _ hxBD_1)).trans hxBD_1) | skip
        replace pBD := eq_true pBD
        replace qBD := eq_true qBD
        have pBE : 0 ≤ (x5_1 : Int) := ofd
        have qBE : x5_1 < (l1.length : Int) := ofd
        obtain ⟨adBE, eBE, hxBE_0, hxBE_1⟩ := at_T61 HR1.out x5_1 pBE qBE
        have hwBE_1 := hxBE_1
        have hwBE_0 := hxBE_0
        cases eBE
        first | (replace hxBE_0 := (HB.out.cell (World.block_lt_of_cell? w _ hxBE_0)).trans hxBE_0) | skip
        first | (replace hxBE_1 := (HB.out.cell (World.block_lt_of_cell? w _ hxBE_1)).trans hxBE_1) | skip
        replace pBE := eq_true pBE
        replace qBE := eq_true qBE
        refine start_ (n := 10) (S := fun w' => w'.cell? (adBD.add ((x5_1).toNat * 2)) = some (.int .i64 ((rd_T61 l0 x5_1).f0)) ∧ w'.cell? ⟨(adBD.add ((x5_1).toNat * 2)).block, (adBD.add ((x5_1).toNat * 2)).off + 1, none⟩ = some (.int .i64 ((rd_T61 l0 x5_1).f1)) ∧ w'.cell? (adBE.add ((x5_1).toNat * 2)) = some (.int .i64 ((rd_T61 l1 x5_1).f0)) ∧ w'.cell? ⟨(adBE.add ((x5_1).toNat * 2)).block, (adBE.add ((x5_1).toNat * 2)).off + 1, none⟩ = some (.int .i64 ((rd_T61 l1 x5_1).f1))) (ds := []) bLawsEqJumpS_0 (by kernel_rfl) rfl rfl ⟨((HB.out.cell (World.block_lt_of_cell? w _ hwBD_0)).trans hwBD_0), ((HB.out.cell (World.block_lt_of_cell? w _ hwBD_1)).trans hwBD_1), ((HB.out.cell (World.block_lt_of_cell? w _ hwBE_0)).trans hwBE_0), ((HB.out.cell (World.block_lt_of_cell? w _ hwBE_1)).trans hwBE_1)⟩ (fun hHeld => ?_); refine with_tabW laws_eqJumpS.tab6 laws_eqJumpS.bits6 (fun HT_ HW_ => ?_)
        generalize wr.drew = w11 at HB hxBD_0 hxBD_1 hxBE_0 hxBE_1 hHeld ⊢
        refine puS 0 17 ?_
        refine puS 1 18 ?_
        refine puS 2 19 ?_
        refine puS 4 21 ?_
        refine puS 5 22 ?_
        refine puS 6 23 ?_
        refine tkS 3 20 ?_
        refine tkS 7 24 ?_
        refine one_ (i := 8) (N := some 25) bLawsEqJumpS_9 rfl rfl (one_of HT_.out (by kernel_rfl)) (by decide) (fun K hK => ?_)
        refine goes_ Tryd.func53 (by kernel_rfl) rfl #[.agg #[.int .i64 ((rd_T61 l0 x5_1).f0), .int .i64 ((rd_T61 l0 x5_1).f1)], .agg #[.int .i64 ((rd_T61 l1 x5_1).f0), .int .i64 ((rd_T61 l1 x5_1).f1)]] (by rfl) rfl rfl argS ?_
        with_reducible refine (laws_eqJump.calls ((rd_T61 l0 x5_1).f0) ((rd_T61 l0 x5_1).f1) ((rd_T61 l1 x5_1).f0) ((rd_T61 l1 x5_1).f1) false _ A7.out).mono ?_
        rintro e w12 ⟨rfl, hb⟩
        refine ⟨_, rfl, ?_⟩
        have n0_ := Am (below_step belS hb)
        clear HB
        have HB := n0_
        clear n0_
        (try clear hb)
        (try clear hb2)
        (try clear hk)
        (try clear hi)
        refine hK.out _ _ ⟨((HB.out.cell (World.block_lt_of_cell? w _ hwBD_0)).trans hwBD_0), ((HB.out.cell (World.block_lt_of_cell? w _ hwBD_1)).trans hwBD_1), ((HB.out.cell (World.block_lt_of_cell? w _ hwBE_0)).trans hwBE_0), ((HB.out.cell (World.block_lt_of_cell? w _ hwBE_1)).trans hwBE_1)⟩ (fun hHeld => ?_)
        clear hK K
        refine norm_ (a' := ?_) ?_ ?_
        rotate_left
        ·show Act.put _ (some 25) _ = _
         simp only [Act.put, sA_, sB_, sC_, i64_w, i32_w]
         rfl
        refine puS 9 26 ?_
        refine done_ (done_of HT_.out (by kernel_rfl)) ?_
        try go_wp2
        go_ret
        exact ⟨rfE, by exact belS⟩
      ·rw [if_neg c6] at H
       exact absurd H (by simp)
     ·rw [if_neg c5] at H
      exact absurd H (by simp)
    ·rw [if_neg c4] at H
     have c4b0 : decide (x5_1 < (l0.length : Int)) = false := decide_eq_false c4
     clear c4
     obtain rfl := Option.some.inj H
     go_wp2
     go_ret
     exact ⟨rfE, by exact belS⟩
 ·rw [if_neg c3] at H
  have c3b0 : ((l0.length : Int) == (l1.length : Int)) = false := beq_eq_false_iff_ne.mpr c3
  have c3b1 : ((l0.length : Int) != (l1.length : Int)) = true := bne_iff_ne.mpr c3
  have c3b2 : (l0.length == l1.length) = false := by first | simpa using c3 | (simp at c3 ⊢; omega)
  obtain rfl := Option.some.inj H
  go_enter Tryd.func32, Tryd.ntmps32
  go_wp2
  go_ret
  exact ⟨rfE, by exact belS⟩

end

section
/-! ### laws_eqBoard: function 9 -/
def laws_eqBoard.f (k : Nat) (a0_0 : Int) (a0_1 : Int) (a0_2 : Int) (l0_3 : List (S61)) (a1_0 : Int) (a1_1 : Int) (a1_2 : Int) (l1_3 : List (S61)) : Option (Bool) := if a0_0 = a1_0 then (if a0_1 = a1_1 then (if a0_2 = a1_2 then ((laws_eqJumpS.f k l0_3 l1_3).bind fun tBF => (if tBF = true then (some true) else (some false))) else (some false)) else (some false)) else (some false)
set_option maxHeartbeats 8000000 in
set_option maxRecDepth 100000 in
theorem laws_eqBoard.calls (k : Nat) (a0_0 : Int) (a0_1 : Int) (a0_2 : Int) (A0_3 : Option Addr) (c0_3 : Nat) (l0_3 : List (S61)) (a1_0 : Int) (a1_1 : Int) (a1_2 : Int) (A1_3 : Option Addr) (c1_3 : Nat) (l1_3 : List (S61)) (r : Bool) (w : World) (hr0_3 : Kd.C k61 w A0_3 l0_3.length l0_3) (hc0_3 : l0_3.length ≤ c0_3) (hr1_3 : Kd.C k61 w A1_3 l1_3.length l1_3) (hc1_3 : l1_3.length ≤ c1_3) (h : laws_eqBoard.f k a0_0 a0_1 a0_2 l0_3 a1_0 a1_1 a1_2 l1_3 = some r) :
  Calls Tryd.prog 9 #[.agg #[.int .i64 a0_0, .int .i64 a0_1, .int .i64 a0_2, .slice A0_3 l0_3.length c0_3], .agg #[.int .i64 a1_0, .int .i64 a1_1, .int .i64 a1_2, .slice A1_3 l1_3.length c1_3]] w fun e w' => e = .returned (.bool r) ∧ Below w.heap.size w w' := by
 have hu24 := Tryd.underlying24
 have HR0_3 := Am hr0_3
 have HC0_3 := Am hc0_3
 clear hr0_3 hc0_3
 have HR1_3 := Am hr1_3
 have HC1_3 := Am hc1_3
 clear hr1_3 hc1_3
 have HB := Am (Below.refl w.heap.size w)
 have H : (if a0_0 = a1_0 then (if a0_1 = a1_1 then (if a0_2 = a1_2 then ((laws_eqJumpS.f k l0_3 l1_3).bind fun tBF => (if tBF = true then (some true) else (some false))) else (some false)) else (some false)) else (some false)) = some r := h
 clear h
 by_cases c3 : a0_0 = a1_0
 ·rw [if_pos c3] at H
  have c3b0 : (a0_0 == a1_0) = true := beq_iff_eq.mpr c3
  have c3b1 : (a0_0 != a1_0) = false := bne_eq_false_iff_eq.mpr c3
  clear c3
  by_cases c4 : a0_1 = a1_1
  ·rw [if_pos c4] at H
   have c4b0 : (a0_1 == a1_1) = true := beq_iff_eq.mpr c4
   have c4b1 : (a0_1 != a1_1) = false := bne_eq_false_iff_eq.mpr c4
   clear c4
   by_cases c5 : a0_2 = a1_2
   ·rw [if_pos c5] at H
    have c5b0 : (a0_2 == a1_2) = true := beq_iff_eq.mpr c5
    have c5b1 : (a0_2 != a1_2) = false := bne_eq_false_iff_eq.mpr c5
    clear c5
    replace H := Option.bind_eq_some_iff.mp H
    obtain ⟨tBF, A60, H⟩ := H
    replace H : (if tBF = true then (some true) else (some false)) = some r := H
    have A6 := Am A60
    clear A60
    by_cases c7 : tBF = true
    ·subst c7
     have H1 : (some true) = some r := by rw [if_pos rfl] at H; exact H
     clear H
     have H := H1
     clear H1
     obtain rfl := Option.some.inj H
     go_enter Tryd.func9, Tryd.ntmps9
     go_wp2_with (first | ((with_reducible refine gate_dst (N := 2) rfl ?_); refine box_event (by rfl) (N := 2) (by rfl) (cs := #[.int .i64 a0_0, .int .i64 a0_1, .int .i64 a0_2, .slice A0_3 l0_3.length c0_3]) (t := 24) hrS ?_; intro gbBD hg w8 hbox hb; have n0_ := Am (below_step belS hb); have n1_ := Am (hbox); have n2_ := Am (geS hg : w.heap.size ≤ gbBD); have n3_ := n2_; clear HB; revert n0_ n1_ n2_ n3_; intro HB BKBD GWBD GEBD; clear hb hbox hg) | ((with_reducible refine gate_dst (N := 3) rfl ?_); refine box_event (by rfl) (N := 3) (by rfl) (cs := #[.int .i64 a1_0, .int .i64 a1_1, .int .i64 a1_2, .slice A1_3 l1_3.length c1_3]) (t := 24) hrS ?_; intro gbBE hg w9 hbox hb; have n0_ := Am (blk_below (blk_up BKBD.out) hb); have n1_ := Am (below_step belS hb); have n2_ := Am (hbox); have n3_ := Am (geS hg : w.heap.size ≤ gbBE); have n4_ := n3_; have n5_ := Am ((by rw [hg]; exact Nat.ne_of_lt (blk_lt (blk_up BKBD.out)) : gbBD ≠ gbBE)); have n6_ := Am ((by rw [hg]; exact Nat.ne_of_gt (blk_lt (blk_up BKBD.out)) : gbBE ≠ gbBD)); clear BKBD HB; revert n0_ n1_ n2_ n3_ n4_ n5_ n6_; intro BKBD HB BKBE GWBE GEBE NBBD_BE NBBE_BD; clear hb hbox hg; have hnb10 := NBBD_BE.out; have hnc10 := NBBE_BD.out; obtain ⟨hcz11_0, hcz11_1, hcz11_2, hcz11_3, hfz11_0, hfz11_1, hfz11_2, hfz11_3⟩ := blk4 BKBD.out; obtain ⟨hcz12_0, hcz12_1, hcz12_2, hcz12_3, hfz12_0, hfz12_1, hfz12_2, hfz12_3⟩ := blk4 BKBE.out) | ((with_reducible refine gate_callee (f := 32) rfl ?_); refine goesL_ (some 24) rfl rfl Tryd.func32 (by kernel_rfl) rfl #[.slice A0_3 l0_3.length c0_3, .slice A1_3 l1_3.length c1_3] rfl argS ?_; (with_reducible refine (laws_eqJumpS.calls k _ _ l0_3 _ _ l1_3 true _ ?side1 ?side2 ?side3 ?side4 A6.out).mono ?_); (case side1 => exact Kd.C_up (Kd.C_below HR0_3.out HB.out)); (case side2 => exact HC0_3.out); (case side3 => exact Kd.C_up (Kd.C_below HR1_3.out HB.out)); (case side4 => exact HC1_3.out); rintro e w13 ⟨rfl, hb⟩; refine ⟨_, rfl, ?_⟩; have n0_ := Am (blk_below (blk_up BKBD.out) hb); have n1_ := Am (blk_below (blk_up BKBE.out) hb); have n2_ := Am (below_step belS hb); clear BKBD BKBE HB; revert n0_ n1_ n2_; intro BKBD BKBE HB; (try clear hb)))
     go_ret
     exact ⟨rfE, by exact belS⟩
    ·replace c7 := Bool.eq_false_iff.mpr c7
     subst c7
     have H1 : (some false) = some r := by rw [if_neg (show ¬ (false = true) by decide)] at H; exact H
     clear H
     have H := H1
     clear H1
     obtain rfl := Option.some.inj H
     go_enter Tryd.func9, Tryd.ntmps9
     go_wp2_with (first | ((with_reducible refine gate_dst (N := 2) rfl ?_); refine box_event (by rfl) (N := 2) (by rfl) (cs := #[.int .i64 a0_0, .int .i64 a0_1, .int .i64 a0_2, .slice A0_3 l0_3.length c0_3]) (t := 24) hrS ?_; intro gbBD hg w14 hbox hb; have n0_ := Am (below_step belS hb); have n1_ := Am (hbox); have n2_ := Am (geS hg : w.heap.size ≤ gbBD); have n3_ := n2_; clear HB; revert n0_ n1_ n2_ n3_; intro HB BKBD GWBD GEBD; clear hb hbox hg) | ((with_reducible refine gate_dst (N := 3) rfl ?_); refine box_event (by rfl) (N := 3) (by rfl) (cs := #[.int .i64 a1_0, .int .i64 a1_1, .int .i64 a1_2, .slice A1_3 l1_3.length c1_3]) (t := 24) hrS ?_; intro gbBE hg w15 hbox hb; have n0_ := Am (blk_below (blk_up BKBD.out) hb); have n1_ := Am (below_step belS hb); have n2_ := Am (hbox); have n3_ := Am (geS hg : w.heap.size ≤ gbBE); have n4_ := n3_; have n5_ := Am ((by rw [hg]; exact Nat.ne_of_lt (blk_lt (blk_up BKBD.out)) : gbBD ≠ gbBE)); have n6_ := Am ((by rw [hg]; exact Nat.ne_of_gt (blk_lt (blk_up BKBD.out)) : gbBE ≠ gbBD)); clear BKBD HB; revert n0_ n1_ n2_ n3_ n4_ n5_ n6_; intro BKBD HB BKBE GWBE GEBE NBBD_BE NBBE_BD; clear hb hbox hg; have hnb16 := NBBD_BE.out; have hnc16 := NBBE_BD.out; obtain ⟨hcz17_0, hcz17_1, hcz17_2, hcz17_3, hfz17_0, hfz17_1, hfz17_2, hfz17_3⟩ := blk4 BKBD.out; obtain ⟨hcz18_0, hcz18_1, hcz18_2, hcz18_3, hfz18_0, hfz18_1, hfz18_2, hfz18_3⟩ := blk4 BKBE.out) | ((with_reducible refine gate_callee (f := 32) rfl ?_); refine goesL_ (some 24) rfl rfl Tryd.func32 (by kernel_rfl) rfl #[.slice A0_3 l0_3.length c0_3, .slice A1_3 l1_3.length c1_3] rfl argS ?_; (with_reducible refine (laws_eqJumpS.calls k _ _ l0_3 _ _ l1_3 false _ ?side1 ?side2 ?side3 ?side4 A6.out).mono ?_); (case side1 => exact Kd.C_up (Kd.C_below HR0_3.out HB.out)); (case side2 => exact HC0_3.out); (case side3 => exact Kd.C_up (Kd.C_below HR1_3.out HB.out)); (case side4 => exact HC1_3.out); rintro e w19 ⟨rfl, hb⟩; refine ⟨_, rfl, ?_⟩; have n0_ := Am (blk_below (blk_up BKBD.out) hb); have n1_ := Am (blk_below (blk_up BKBE.out) hb); have n2_ := Am (below_step belS hb); clear BKBD BKBE HB; revert n0_ n1_ n2_; intro BKBD BKBE HB; (try clear hb)))
     go_ret
     exact ⟨rfE, by exact belS⟩
   ·rw [if_neg c5] at H
    have c5b0 : (a0_2 == a1_2) = false := beq_eq_false_iff_ne.mpr c5
    have c5b1 : (a0_2 != a1_2) = true := bne_iff_ne.mpr c5
    obtain rfl := Option.some.inj H
    go_enter Tryd.func9, Tryd.ntmps9
    go_wp2_with (first | ((with_reducible refine gate_dst (N := 2) rfl ?_); refine box_event (by rfl) (N := 2) (by rfl) (cs := #[.int .i64 a0_0, .int .i64 a0_1, .int .i64 a0_2, .slice A0_3 l0_3.length c0_3]) (t := 24) hrS ?_; intro gbBD hg w20 hbox hb; have n0_ := Am (below_step belS hb); have n1_ := Am (hbox); have n2_ := Am (geS hg : w.heap.size ≤ gbBD); have n3_ := n2_; clear HB; revert n0_ n1_ n2_ n3_; intro HB BKBD GWBD GEBD; clear hb hbox hg) | ((with_reducible refine gate_dst (N := 3) rfl ?_); refine box_event (by rfl) (N := 3) (by rfl) (cs := #[.int .i64 a1_0, .int .i64 a1_1, .int .i64 a1_2, .slice A1_3 l1_3.length c1_3]) (t := 24) hrS ?_; intro gbBE hg w21 hbox hb; have n0_ := Am (blk_below (blk_up BKBD.out) hb); have n1_ := Am (below_step belS hb); have n2_ := Am (hbox); have n3_ := Am (geS hg : w.heap.size ≤ gbBE); have n4_ := n3_; have n5_ := Am ((by rw [hg]; exact Nat.ne_of_lt (blk_lt (blk_up BKBD.out)) : gbBD ≠ gbBE)); have n6_ := Am ((by rw [hg]; exact Nat.ne_of_gt (blk_lt (blk_up BKBD.out)) : gbBE ≠ gbBD)); clear BKBD HB; revert n0_ n1_ n2_ n3_ n4_ n5_ n6_; intro BKBD HB BKBE GWBE GEBE NBBD_BE NBBE_BD; clear hb hbox hg; have hnb22 := NBBD_BE.out; have hnc22 := NBBE_BD.out; obtain ⟨hcz23_0, hcz23_1, hcz23_2, hcz23_3, hfz23_0, hfz23_1, hfz23_2, hfz23_3⟩ := blk4 BKBD.out; obtain ⟨hcz24_0, hcz24_1, hcz24_2, hcz24_3, hfz24_0, hfz24_1, hfz24_2, hfz24_3⟩ := blk4 BKBE.out))
    go_ret
    exact ⟨rfE, by exact belS⟩
  ·rw [if_neg c4] at H
   have c4b0 : (a0_1 == a1_1) = false := beq_eq_false_iff_ne.mpr c4
   have c4b1 : (a0_1 != a1_1) = true := bne_iff_ne.mpr c4
   obtain rfl := Option.some.inj H
   go_enter Tryd.func9, Tryd.ntmps9
   go_wp2_with (first | ((with_reducible refine gate_dst (N := 2) rfl ?_); refine box_event (by rfl) (N := 2) (by rfl) (cs := #[.int .i64 a0_0, .int .i64 a0_1, .int .i64 a0_2, .slice A0_3 l0_3.length c0_3]) (t := 24) hrS ?_; intro gbBD hg w25 hbox hb; have n0_ := Am (below_step belS hb); have n1_ := Am (hbox); have n2_ := Am (geS hg : w.heap.size ≤ gbBD); have n3_ := n2_; clear HB; revert n0_ n1_ n2_ n3_; intro HB BKBD GWBD GEBD; clear hb hbox hg) | ((with_reducible refine gate_dst (N := 3) rfl ?_); refine box_event (by rfl) (N := 3) (by rfl) (cs := #[.int .i64 a1_0, .int .i64 a1_1, .int .i64 a1_2, .slice A1_3 l1_3.length c1_3]) (t := 24) hrS ?_; intro gbBE hg w26 hbox hb; have n0_ := Am (blk_below (blk_up BKBD.out) hb); have n1_ := Am (below_step belS hb); have n2_ := Am (hbox); have n3_ := Am (geS hg : w.heap.size ≤ gbBE); have n4_ := n3_; have n5_ := Am ((by rw [hg]; exact Nat.ne_of_lt (blk_lt (blk_up BKBD.out)) : gbBD ≠ gbBE)); have n6_ := Am ((by rw [hg]; exact Nat.ne_of_gt (blk_lt (blk_up BKBD.out)) : gbBE ≠ gbBD)); clear BKBD HB; revert n0_ n1_ n2_ n3_ n4_ n5_ n6_; intro BKBD HB BKBE GWBE GEBE NBBD_BE NBBE_BD; clear hb hbox hg; have hnb27 := NBBD_BE.out; have hnc27 := NBBE_BD.out; obtain ⟨hcz28_0, hcz28_1, hcz28_2, hcz28_3, hfz28_0, hfz28_1, hfz28_2, hfz28_3⟩ := blk4 BKBD.out; obtain ⟨hcz29_0, hcz29_1, hcz29_2, hcz29_3, hfz29_0, hfz29_1, hfz29_2, hfz29_3⟩ := blk4 BKBE.out))
   go_ret
   exact ⟨rfE, by exact belS⟩
 ·rw [if_neg c3] at H
  have c3b0 : (a0_0 == a1_0) = false := beq_eq_false_iff_ne.mpr c3
  have c3b1 : (a0_0 != a1_0) = true := bne_iff_ne.mpr c3
  obtain rfl := Option.some.inj H
  go_enter Tryd.func9, Tryd.ntmps9
  go_wp2_with (first | ((with_reducible refine gate_dst (N := 2) rfl ?_); refine box_event (by rfl) (N := 2) (by rfl) (cs := #[.int .i64 a0_0, .int .i64 a0_1, .int .i64 a0_2, .slice A0_3 l0_3.length c0_3]) (t := 24) hrS ?_; intro gbBD hg w30 hbox hb; have n0_ := Am (below_step belS hb); have n1_ := Am (hbox); have n2_ := Am (geS hg : w.heap.size ≤ gbBD); have n3_ := n2_; clear HB; revert n0_ n1_ n2_ n3_; intro HB BKBD GWBD GEBD; clear hb hbox hg) | ((with_reducible refine gate_dst (N := 3) rfl ?_); refine box_event (by rfl) (N := 3) (by rfl) (cs := #[.int .i64 a1_0, .int .i64 a1_1, .int .i64 a1_2, .slice A1_3 l1_3.length c1_3]) (t := 24) hrS ?_; intro gbBE hg w31 hbox hb; have n0_ := Am (blk_below (blk_up BKBD.out) hb); have n1_ := Am (below_step belS hb); have n2_ := Am (hbox); have n3_ := Am (geS hg : w.heap.size ≤ gbBE); have n4_ := n3_; have n5_ := Am ((by rw [hg]; exact Nat.ne_of_lt (blk_lt (blk_up BKBD.out)) : gbBD ≠ gbBE)); have n6_ := Am ((by rw [hg]; exact Nat.ne_of_gt (blk_lt (blk_up BKBD.out)) : gbBE ≠ gbBD)); clear BKBD HB; revert n0_ n1_ n2_ n3_ n4_ n5_ n6_; intro BKBD HB BKBE GWBE GEBE NBBD_BE NBBE_BD; clear hb hbox hg; have hnb32 := NBBD_BE.out; have hnc32 := NBBE_BD.out; obtain ⟨hcz33_0, hcz33_1, hcz33_2, hcz33_3, hfz33_0, hfz33_1, hfz33_2, hfz33_3⟩ := blk4 BKBD.out; obtain ⟨hcz34_0, hcz34_1, hcz34_2, hcz34_3, hfz34_0, hfz34_1, hfz34_2, hfz34_3⟩ := blk4 BKBE.out))
  go_ret
  exact ⟨rfE, by exact belS⟩

end

section
/-! ### laws_szJumpS: function 38 -/
def laws_szJumpS.f (l0 : List (S81)) (a1 : Int) : Option (Int) := if (wrap64 (a1 - (l0.length : Int))) < 0 then (some (-1)) else (some (wrap64 (a1 - (l0.length : Int))))
set_option maxHeartbeats 8000000 in
set_option maxRecDepth 100000 in
theorem laws_szJumpS.calls (A0 : Option Addr) (c0 : Nat) (l0 : List (S81)) (a1 : Int) (r : Int) (w : World) (hr0 : Kd.C k81 w A0 l0.length l0) (hc0 : l0.length ≤ c0) (h : laws_szJumpS.f l0 a1 = some r) :
  Calls Tryd.prog 38 #[.slice A0 l0.length c0, .int .i64 a1] w fun e w' => e = .returned (.int .i64 r) ∧ Drawn0 w w' := by
 have HR0 := Am hr0
 have HC0 := Am hc0
 clear hr0 hc0
 have H : (if (wrap64 (a1 - (l0.length : Int))) < 0 then (some (-1)) else (some (wrap64 (a1 - (l0.length : Int))))) = some r := h
 clear h
 by_cases c3 : (wrap64 (a1 - (l0.length : Int))) < 0
 ·rw [if_pos c3] at H
  have c3b0 : decide ((wrap64 (a1 - (l0.length : Int))) < 0) = true := decide_eq_true c3
  clear c3
  obtain rfl := Option.some.inj H
  go_enter Tryd.func38, Tryd.ntmps38
  go_wp2
  go_ret
  exact ⟨by first | rfl | (simp; done) | (simp [*]; done), by repeat (first | exact Drawn0.refl _ | apply Drawn0.step)⟩
 ·rw [if_neg c3] at H
  have c3b0 : decide ((wrap64 (a1 - (l0.length : Int))) < 0) = false := decide_eq_false c3
  clear c3
  obtain rfl := Option.some.inj H
  go_enter Tryd.func38, Tryd.ntmps38
  go_wp2
  go_ret
  exact ⟨by first | rfl | (simp; done) | (simp [*]; done), by repeat (first | exact Drawn0.refl _ | apply Drawn0.step)⟩

end

section
/-! ### laws_szBoard: function 17 -/
def laws_szBoard.f (a0_0 : Int) (a0_1 : Int) (a0_2 : Int) (l0_3 : List (S81)) (a1 : Int) : Option (Int) := (laws_szJumpS.f l0_3 a1).bind fun tBE => (if tBE < 0 then (some (-1)) else (some tBE))
set_option maxHeartbeats 8000000 in
set_option maxRecDepth 100000 in
theorem laws_szBoard.calls (a0_0 : Int) (a0_1 : Int) (a0_2 : Int) (A0_3 : Option Addr) (c0_3 : Nat) (l0_3 : List (S81)) (a1 : Int) (r : Int) (w : World) (hr0_3 : Kd.C k81 w A0_3 l0_3.length l0_3) (hc0_3 : l0_3.length ≤ c0_3) (h : laws_szBoard.f a0_0 a0_1 a0_2 l0_3 a1 = some r) :
  Calls Tryd.prog 17 #[.agg #[.int .i64 a0_0, .int .i64 a0_1, .int .i64 a0_2, .slice A0_3 l0_3.length c0_3], .int .i64 a1] w fun e w' => e = .returned (.int .i64 r) ∧ Below w.heap.size w w' := by
 have hu38 := Tryd.underlying38
 have HR0_3 := Am hr0_3
 have HC0_3 := Am hc0_3
 clear hr0_3 hc0_3
 have HB := Am (Below.refl w.heap.size w)
 have H : ((laws_szJumpS.f l0_3 a1).bind fun tBE => (if tBE < 0 then (some (-1)) else (some tBE))) = some r := h
 clear h
 replace H := Option.bind_eq_some_iff.mp H
 obtain ⟨tBE, A30, H⟩ := H
 replace H : (if tBE < 0 then (some (-1)) else (some tBE)) = some r := H
 have A3 := Am A30
 clear A30
 by_cases c4 : tBE < 0
 ·rw [if_pos c4] at H
  have c4b0 : decide (tBE < 0) = true := decide_eq_true c4
  clear c4
  obtain rfl := Option.some.inj H
  go_enter Tryd.func17, Tryd.ntmps17
  go_wp2_with (first | ((with_reducible refine gate_dst (N := 2) rfl ?_); refine box_event (by rfl) (N := 2) (by rfl) (cs := #[.int .i64 a0_0, .int .i64 a0_1, .int .i64 a0_2, .slice A0_3 l0_3.length c0_3]) (t := 38) hrS ?_; intro gbBD hg w5 hbox hb; have n0_ := Am (below_step belS hb); have n1_ := Am (hbox); have n2_ := Am (geS hg : w.heap.size ≤ gbBD); have n3_ := n2_; clear HB; revert n0_ n1_ n2_ n3_; intro HB BKBD GWBD GEBD; clear hb hbox hg; obtain ⟨hcz6_0, hcz6_1, hcz6_2, hcz6_3, hfz6_0, hfz6_1, hfz6_2, hfz6_3⟩ := blk4 BKBD.out) | ((with_reducible refine gate_callee (f := 38) rfl ?_); refine goesL_ (some 8) rfl rfl Tryd.func38 (by kernel_rfl) rfl #[.slice A0_3 l0_3.length c0_3, .int .i64 a1] rfl argS ?_; (with_reducible refine (laws_szJumpS.calls _ _ l0_3 a1 tBE _ ?side1 ?side2 A3.out).mono ?_); (case side1 => exact Kd.C_up (Kd.C_below HR0_3.out HB.out)); (case side2 => exact HC0_3.out); rintro e w' ⟨rfl, ⟨nd, rfl⟩⟩; refine ⟨_, rfl, ?_⟩))
  go_ret
  exact ⟨rfE, by exact belS⟩
 ·rw [if_neg c4] at H
  have c4b0 : decide (tBE < 0) = false := decide_eq_false c4
  clear c4
  obtain rfl := Option.some.inj H
  go_enter Tryd.func17, Tryd.ntmps17
  go_wp2_with (first | ((with_reducible refine gate_dst (N := 2) rfl ?_); refine box_event (by rfl) (N := 2) (by rfl) (cs := #[.int .i64 a0_0, .int .i64 a0_1, .int .i64 a0_2, .slice A0_3 l0_3.length c0_3]) (t := 38) hrS ?_; intro gbBD hg w7 hbox hb; have n0_ := Am (below_step belS hb); have n1_ := Am (hbox); have n2_ := Am (geS hg : w.heap.size ≤ gbBD); have n3_ := n2_; clear HB; revert n0_ n1_ n2_ n3_; intro HB BKBD GWBD GEBD; clear hb hbox hg; obtain ⟨hcz8_0, hcz8_1, hcz8_2, hcz8_3, hfz8_0, hfz8_1, hfz8_2, hfz8_3⟩ := blk4 BKBD.out) | ((with_reducible refine gate_callee (f := 38) rfl ?_); refine goesL_ (some 8) rfl rfl Tryd.func38 (by kernel_rfl) rfl #[.slice A0_3 l0_3.length c0_3, .int .i64 a1] rfl argS ?_; (with_reducible refine (laws_szJumpS.calls _ _ l0_3 a1 tBE _ ?side1 ?side2 A3.out).mono ?_); (case side1 => exact Kd.C_up (Kd.C_below HR0_3.out HB.out)); (case side2 => exact HC0_3.out); rintro e w' ⟨rfl, ⟨nd, rfl⟩⟩; refine ⟨_, rfl, ?_⟩))
  go_ret
  exact ⟨rfE, by exact belS⟩

end

section
/-! ### laws_toJump: function 58 -/
def laws_toJump.f (a0_0 : Int) (a0_1 : Int) : Option (Int × Int) := some (a0_0, a0_1)
set_option maxHeartbeats 8000000 in
set_option maxRecDepth 100000 in
theorem laws_toJump.calls (a0_0 : Int) (a0_1 : Int) (r1 : Int) (r2 : Int) (w : World) (h : laws_toJump.f a0_0 a0_1 = some (r1, r2)) :
  Calls Tryd.prog 58 #[.agg #[.int .i64 a0_0, .int .i64 a0_1]] w fun e w' => e = .returned (.agg #[.int .i64 r1, .int .i64 r2]) ∧ Below w.heap.size w w' := by
 have hu81 := Tryd.underlying81
 have hu61 := Tryd.underlying61
 have HB := Am (Below.refl w.heap.size w)
 have H : (some (a0_0, a0_1)) = some (r1, r2) := h
 clear h
 simp only [Option.some.injEq, Prod.mk.injEq] at H
 obtain ⟨rfl, rfl⟩ := H
 go_enter Tryd.func58, Tryd.ntmps58
 go_wp2_with (first | ((with_reducible refine gate_dst (N := 1) rfl ?_); refine box_event (by rfl) (N := 1) (by rfl) (cs := #[.int .i64 a0_0, .int .i64 a0_1]) (t := 81) hrS ?_; intro gbBD hg w2 hbox hb; have n0_ := Am (below_step belS hb); have n1_ := Am (hbox); have n2_ := Am (geS hg : w.heap.size ≤ gbBD); have n3_ := n2_; clear HB; revert n0_ n1_ n2_ n3_; intro HB BKBD GWBD GEBD; clear hb hbox hg) | ((with_reducible refine gate_dst (N := 2) rfl ?_); refine box_event (by rfl) (N := 2) (by rfl) (cs := #[.int .i64 0, .int .i64 0]) (t := 61) hrS ?_; intro gbBE hg w3 hbox hb; have n0_ := Am (blk_below (blk_up BKBD.out) hb); have n1_ := Am (below_step belS hb); have n2_ := Am (hbox); have n3_ := Am (geS hg : w.heap.size ≤ gbBE); have n4_ := n3_; have n5_ := Am ((by rw [hg]; exact Nat.ne_of_lt (blk_lt (blk_up BKBD.out)) : gbBD ≠ gbBE)); have n6_ := Am ((by rw [hg]; exact Nat.ne_of_gt (blk_lt (blk_up BKBD.out)) : gbBE ≠ gbBD)); clear BKBD HB; revert n0_ n1_ n2_ n3_ n4_ n5_ n6_; intro BKBD HB BKBE GWBE GEBE NBBD_BE NBBE_BD; clear hb hbox hg) | ((with_reducible refine gate_dst (N := 3) rfl ?_); refine box_event (by rfl) (N := 3) (by rfl) (cs := #[.int .i64 0, .int .i64 0]) (t := 61) hrS ?_; intro gbBF hg w4 hbox hb; have n0_ := Am (blk_below (blk_up BKBD.out) hb); have n1_ := Am (blk_below (blk_up BKBE.out) hb); have n2_ := Am (below_step belS hb); have n3_ := Am (hbox); have n4_ := Am (geS hg : w.heap.size ≤ gbBF); have n5_ := n4_; have n6_ := Am ((by rw [hg]; exact Nat.ne_of_lt (blk_lt (blk_up BKBD.out)) : gbBD ≠ gbBF)); have n7_ := Am ((by rw [hg]; exact Nat.ne_of_gt (blk_lt (blk_up BKBD.out)) : gbBF ≠ gbBD)); have n8_ := Am ((by rw [hg]; exact Nat.ne_of_lt (blk_lt (blk_up BKBE.out)) : gbBE ≠ gbBF)); have n9_ := Am ((by rw [hg]; exact Nat.ne_of_gt (blk_lt (blk_up BKBE.out)) : gbBF ≠ gbBE)); clear BKBD BKBE HB; revert n0_ n1_ n2_ n3_ n4_ n5_ n6_ n7_ n8_ n9_; intro BKBD BKBE HB BKBF GWBF GEBF NBBD_BF NBBF_BD NBBE_BF NBBF_BE; clear hb hbox hg; have hnb5 := NBBD_BE.out; have hnc5 := NBBE_BD.out; have hnb6 := NBBD_BF.out; have hnc6 := NBBF_BD.out; obtain ⟨hcz7_0, hcz7_1, hfz7_0, hfz7_1⟩ := blk2 BKBD.out; have hnb8 := NBBF_BE.out; have hnc8 := NBBE_BF.out; obtain ⟨hcz9_0, hcz9_1, hfz9_0, hfz9_1⟩ := blk2 BKBF.out; obtain ⟨hcz10_0, hcz10_1, hfz10_0, hfz10_1⟩ := blk2 BKBE.out))
 refine bodyPost_ret (results_cell_row rfl _ _ gbBE 61 #[.int .i64 a0_0, .int .i64 a0_1] (0, 0) _ rfl (by (with_reducible repeat (first | refine blk_drewN ?_ _ | refine blk_drew ?_ | refine blk_alloc ?_ _)); refine blk_put (cs := #[.int .i64 a0_0, .int .i64 0]) ?_ 1 _ rfl; refine blk_putU (cs := #[.int .i64 0, .int .i64 0]) ?_ 0 _ rfl; refine blk_farU ?_ NBBE_BF.out _; refine blk_farU ?_ NBBE_BF.out _; exact BKBE.out) Tryd.underlying61 rfl (by kernel_rfl)) rfl ?_
 exact ⟨rfE, by exact belS⟩

end

section
/-! ### laws_toJumpS: function 41 -/
def laws_toJumpS.l0 : Nat → List (S81) → List (S61) → Int → Option ((List (S61)))
 | 0, _, _, _ => none
 | k + 1, x0, x3, x4 => if x4 < (x0.length : Int) then (if 0 ≤ x4 then ((laws_toJump.f ((rd_T81 x0 x4).f0) ((rd_T81 x0 x4).f1)).bind fun btBH => (if x4 < (x3.length : Int) then (laws_toJumpS.l0 k x0 (x3.set (x4 : Int).toNat (⟨btBH.1, btBH.2⟩ : S61)) (wrap64 (x4 + 1))) else (none))) else (none)) else (some x3)
def laws_toJumpS.f (k : Nat) (l0 : List (S81)) : Option ((List (S61))) := if 0 ≤ (l0.length : Int) then (if ((l0.length : Int) : Int).toNat ≤ 17592186044416 then (laws_toJumpS.l0 k l0 (List.replicate ((l0.length : Int) : Int).toNat z61) 0) else (none)) else (none)
set_option maxHeartbeats 8000000 in
set_option maxRecDepth 100000 in
theorem laws_toJumpS.calls (k : Nat) (A0 : Option Addr) (c0 : Nat) (l0 : List (S81)) (r : List (S61)) (w : World) (hr0 : Kd.C k81 w A0 l0.length l0) (hc0 : l0.length ≤ c0) (h : laws_toJumpS.f k l0 = some r) :
  Calls Tryd.prog 41 #[.slice A0 l0.length c0] w fun e w' => ∃ v0_ : Value, e = .returned (v0_) ∧ Kd.R k61 61 w' w.heap.size (fun _ => True) v0_ r ∧ Below w.heap.size w w' := by
 have hu81 := Tryd.underlying81
 have hu61 := Tryd.underlying61
 have HR0 := Am hr0
 have HC0 := Am hc0
 clear hr0 hc0
 have HB := Am (Below.refl w.heap.size w)
 have H : (if 0 ≤ (l0.length : Int) then (if ((l0.length : Int) : Int).toNat ≤ 17592186044416 then (laws_toJumpS.l0 k l0 (List.replicate ((l0.length : Int) : Int).toNat z61) 0) else (none)) else (none)) = some r := h
 clear h
 by_cases c2 : 0 ≤ (l0.length : Int)
 ·rw [if_pos c2] at H
  have c2b0 := eq_true c2
  have c2b1 : decide (0 ≤ (l0.length : Int)) = true := decide_eq_true c2
  clear c2
  by_cases c3 : ((l0.length : Int) : Int).toNat ≤ 17592186044416
  ·rw [if_pos c3] at H
   have c3b0 := eq_true c3
   have c3b1 : decide (((l0.length : Int) : Int).toNat ≤ 17592186044416) = true := decide_eq_true c3
   clear c3
   obtain ⟨yBD, hyBD⟩ : ∃ y_ : List (S61), y_ = (List.replicate ((l0.length : Int) : Int).toNat z61) := ⟨_, rfl⟩
   replace H : (laws_toJumpS.l0 k l0 yBD 0) = some r := by first | (rw [hyBD]; with_reducible exact H) | (have H2_ := (Option.bind_some _ _).symm.trans H; rw [hyBD]; with_reducible exact H2_) | (have H2_ := (Option.bind_some _ _).symm.trans H; with_reducible exact H2_) | with_reducible exact H | (rw [hyBD]; exact H) | exact H
   have NyBD := Am hyBD
   clear hyBD
   have H' := Am H
   clear H
   go_enter Tryd.func41, Tryd.ntmps41
   go_wp2_with (first | ((with_reducible refine gate_dst (N := 7) rfl ?_); refine Kd.R_make k61 _ 61 rfl (N := 7) rfl 22 _ _ rfl (l0.length : Int) rfl rfl Tryd.underlying22 (.agg #[(.int .i64 0), (.int .i64 0)]) 16 info61 rfl (by decide) (by omega) z61 (ok := fun _ => True) (okp := fun _ => True) (k61_mkM _ _ _ z61 ) (fun _ hk => hk) trivial ofd (Nat.le_trans (Nat.mul_le_mul_right _ (ofd : (l0.length : Int).toNat ≤ 17592186044416)) (by omega)) (Below.refl _ _) (Nat.le_refl _) ?_; intro vBE w4 ho5 hb hg_ hnew_; clear hg_ hnew_; (first | rw [← NyBD.out] at ho5 | (simp only [Int.reduceToNat] at ho5; rw [← NyBD.out] at ho5)); have n0_ := Am (Kd.R_lower ho5 (below_size belS)); have n1_ := Am (below_step belS hb); clear HB; revert n0_ n1_; intro HOBF HB; clear hb ho5))
   go_loopg [4] k (fun kq v4 w' => ∃ (x3_1 : List (S61)) (x4_1 : Int), v4 = .int .i64 x4_1 ∧ Aside0 (laws_toJumpS.l0 kq l0 x3_1 x4_1 = some r) ∧ Aside0 (kq ≤ k) ∧ Aside0 (Kd.R k61 61 w' w.heap.size (fun _ => True) vBE x3_1) ∧ Aside0 (Below w.heap.size w w'))
   case atStart => exact ⟨(yBD), (0), rfS, H', ⟨Nat.le_refl _⟩, ⟨by first | exact Kd.R_up HOBF.out | exact HOBF.out⟩, ⟨by exact belS⟩⟩
   case round =>
    clear H'
    try clear c2
    try clear c2b0
    try clear c2b1
    try clear c3
    try clear c3b0
    try clear c3b1
    obtain ⟨x3_1, x4_1, rfl, HA, HK1, HO_3, HB⟩ := hrel
    cases gk with
    | zero => exact absurd HA.out (by simp [laws_toJumpS.l0])
    | succ k1 =>
     have H := HA.out
     clear HA
     simp only [laws_toJumpS.l0] at H
     by_cases c6 : x4_1 < (l0.length : Int)
     ·rw [if_pos c6] at H
      have c6b0 : decide (x4_1 < (l0.length : Int)) = true := decide_eq_true c6
      clear c6
      by_cases c7 : 0 ≤ x4_1
      ·rw [if_pos c7] at H
       have c7b0 : decide (0 ≤ x4_1) = true := decide_eq_true c7
       clear c7
       replace H := Option.bind_eq_some_iff.mp H
       obtain ⟨⟨tBH, tBI⟩, A80, H⟩ := H
       replace H : (if x4_1 < (x3_1.length : Int) then (laws_toJumpS.l0 k1 l0 (x3_1.set (x4_1 : Int).toNat (⟨tBH, tBI⟩ : S61)) (wrap64 (x4_1 + 1))) else (none)) = some r := H
       have A8 := Am A80
       clear A80
       by_cases c9 : x4_1 < (x3_1.length : Int)
       ·rw [if_pos c9] at H
        have c9b0 : decide (x4_1 < (x3_1.length : Int)) = true := decide_eq_true c9
        clear c9
        obtain ⟨yBJ, hyBJ⟩ : ∃ y_ : List (S61), y_ = (x3_1.set (x4_1 : Int).toNat (⟨tBH, tBI⟩ : S61)) := ⟨_, rfl⟩
        replace H : (laws_toJumpS.l0 k1 l0 yBJ (wrap64 (x4_1 + 1))) = some r := by first | (rw [hyBJ]; with_reducible exact H) | (have H2_ := (Option.bind_some _ _).symm.trans H; rw [hyBJ]; with_reducible exact H2_) | (have H2_ := (Option.bind_some _ _).symm.trans H; with_reducible exact H2_) | with_reducible exact H | (rw [hyBJ]; exact H) | exact H
        have NyBJ := Am hyBJ
        clear hyBJ
        have H' := Am H
        clear H
        have pBG : 0 ≤ (x4_1 : Int) := ofd
        have qBG : x4_1 < (l0.length : Int) := ofd
        obtain ⟨adBG, eBG, hxBG_0, hxBG_1⟩ := at_T81 HR0.out x4_1 pBG qBG
        cases eBG
        first | (replace hxBG_0 := (HB.out.cell (World.block_lt_of_cell? w _ hxBG_0)).trans hxBG_0) | skip
        first | (replace hxBG_1 := (HB.out.cell (World.block_lt_of_cell? w _ hxBG_1)).trans hxBG_1) | skip
        replace pBG := eq_true pBG
        replace qBG := eq_true qBG
        go_wp2_with (first | ((with_reducible refine gate_callee (f := 58) rfl ?_); refine goesL_ (some 20) rfl rfl Tryd.func58 (by kernel_rfl) rfl #[.agg #[.int .i64 ((rd_T81 l0 x4_1).f0), .int .i64 ((rd_T81 l0 x4_1).f1)]] rfl argS ?_; (with_reducible refine (laws_toJump.calls ((rd_T81 l0 x4_1).f0) ((rd_T81 l0 x4_1).f1) tBH tBI _ A8.out).mono ?_); rintro e w11 ⟨rfl, hb⟩; refine ⟨_, rfl, ?_⟩; have n0_ := Am (Kd.R_below (Kd.R_up HO_3.out) hb); have n1_ := Am (below_step belS hb); clear HO_3 HB; revert n0_ n1_; intro HO_3 HB; (try clear hb); have p10 : 0 ≤ (x4_1 : Int) := ofd; have q10 : (x4_1 : Int) < ((x3_1.length : Int) : Int) := ofd; obtain ⟨go10, co10, eo10, gb10, gl10, cl10, HG10⟩ := Kd.R_form HO_3.out (by omega); (first | cases eo10 | (injection eo10 with ea_ en_ ec_; (first | subst ea_ | (injection ea_ with ea_; subst ea_)); subst ec_; clear en_)); have GB10 := Am gb10; have GG10 := Am HG10; clear gb10 gl10 HG10; obtain ⟨ce10, hcl10, hM10, hcc10, hfr10⟩ := Kd.R_elem HO_3.out z61 (x4_1 : Int) p10 q10; obtain rfl := k61_openM hM10; have hx10_0 : w11.cell? ⟨go10, (x4_1 : Int).toNat * 2, none⟩ = some (.int .i64 ((rd_T61 x3_1 x4_1).f0)) := hcc10 0 _ rfl; have hx10_1 : w11.cell? ⟨go10, (x4_1 : Int).toNat * 2 + 1, none⟩ = some (.int .i64 ((rd_T61 x3_1 x4_1).f1)) := hcc10 1 _ rfl; have hf10_0 : w11.frozen? ⟨go10, (x4_1 : Int).toNat * 2, none⟩ = false := hfr10 0; have hf10_1 : w11.frozen? ⟨go10, (x4_1 : Int).toNat * 2 + 1, none⟩ = false := hfr10 1; clear hcl10 hcc10 hfr10 hM10; replace p10 := eq_true p10; replace q10 := eq_true q10; have HX12 := Am (show Kd.R k61 61 w11 w.heap.size (fun _ => True) (.slice (some ⟨go10, 0, none⟩) x3_1.length co10) x3_1 from (Kd.R_up HO_3.out)); obtain ⟨ce12, hcl12, hM12, hcc12, hfr12⟩ := Kd.R_elem HX12.out z61 (x4_1 : Int) ofd (by have h_ : (x4_1 : Int) < ((x3_1.length : Int) : Int) := ofd; first | exact h_ | (have e_ := (Kd.R_reads' HO_3.out).1; omega) | simpa using h_); obtain rfl := k61_openM hM12; have HP12 := Kd.R_seg HX12.out (x4_1 : Int) ofd (by have h_ : (x4_1 : Int) < ((x3_1.length : Int) : Int) := ofd; first | exact h_ | (have e_ := (Kd.R_reads' HO_3.out).1; omega) | simpa using h_) (seg := [.int .i64 tBH, .int .i64 tBI]) (j := 0) hcl12 hcc12 (show 2 ≤ 2 from by decide) (x' := (⟨tBH, tBI⟩ : S61)) (k61_mkM _ _ _ (⟨tBH, tBI⟩ : S61) ) (fun _ hk => hk); have hx12_0 := hcc12 0 _ rfl; (try simp only [show (k61).sz = 2 from rfl, Nat.mul_one, Nat.add_zero] at hx12_0); have hf12_0 := hfr12 0; (try simp only [show (k61).sz = 2 from rfl, Nat.mul_one, Nat.add_zero] at hf12_0); have hx12_1 := hcc12 1 _ rfl; (try simp only [show (k61).sz = 2 from rfl, Nat.mul_one, Nat.add_zero] at hx12_1); have hf12_1 := hfr12 1; (try simp only [show (k61).sz = 2 from rfl, Nat.mul_one, Nat.add_zero] at hf12_1); clear hcl12 hcc12 hfr12 hM12) | ((with_reducible refine gate_store (t := 61) (p := 21) rfl ?_); refine store_event (t := 61) (p := 21) (v := ?vo_w13) (w1 := ((w11.setCell ⟨go10, (x4_1 : Int).toNat * 2, none⟩ (.int .i64 tBH)).setCell ⟨go10, (x4_1 : Int).toNat * 2 + 1, none⟩ (.int .i64 tBI))) ?hg ?ho ?hn ?hr ?_; (case ho => rfl); (case hg => rfl); (case hn => rfl); (case hr => first | (go_simp; done) | (go_simp; rfl)); intro w13 hw; have hg : w11.grownBy w13 (some go10) := (by rw [hw]; exact HP12.2); have hp_ : Kd.R k61 61 w13 w.heap.size (fun _ => True) (.slice (some ⟨go10, 0, none⟩) x3_1.length co10) yBJ := (by rw [hw, NyBJ.out]; exact HP12.1); clear HP12; have n0_ := Am (hp_); have n1_ := Am ((by rw [hw]; exact below_set (below_set (HB.out) GB10.out) GB10.out : Below w.heap.size w w13)); clear HO_3 HB; revert n0_ n1_; intro HO_3 HB; clear hg hw hp_))
        go_roundg k1
        case measure => have := HK1.out; omega
        case rel => exact ⟨(yBJ), (wrap64 (x4_1 + 1)), rfS, H', ⟨by have := HK1.out; omega⟩, ⟨by first | exact Kd.R_up HO_3.out | exact HO_3.out⟩, ⟨by exact belS⟩⟩
       ·rw [if_neg c9] at H
        exact absurd H (by simp)
      ·rw [if_neg c7] at H
       exact absurd H (by simp)
     ·rw [if_neg c6] at H
      have c6b0 : decide (x4_1 < (l0.length : Int)) = false := decide_eq_false c6
      clear c6
      obtain rfl := Option.some.inj H
      go_wp2
      go_ret
      exact ⟨_, rfE, by (with_reducible repeat (first | apply Kd.R_alloc | apply Kd.R_drewN | apply Kd.R_drew)); exact HO_3.out, by exact belS⟩
  ·rw [if_neg c3] at H
   exact absurd H (by simp)
 ·rw [if_neg c2] at H
  exact absurd H (by simp)

end

section
/-! ### laws_toBoard: function 19 -/
def laws_toBoard.f (k : Nat) (a0_0 : Int) (a0_1 : Int) (a0_2 : Int) (l0_3 : List (S81)) : Option (Int × Int × Int × (List (S61))) := (laws_toJumpS.f k l0_3).bind fun tBG => (some (a0_0, a0_1, a0_2, tBG))
set_option maxHeartbeats 8000000 in
set_option maxRecDepth 100000 in
theorem laws_toBoard.calls (k : Nat) (a0_0 : Int) (a0_1 : Int) (a0_2 : Int) (A0_3 : Option Addr) (c0_3 : Nat) (l0_3 : List (S81)) (r1 : Int) (r2 : Int) (r3 : Int) (r4 : List (S61)) (w : World) (hr0_3 : Kd.C k81 w A0_3 l0_3.length l0_3) (hc0_3 : l0_3.length ≤ c0_3) (h : laws_toBoard.f k a0_0 a0_1 a0_2 l0_3 = some (r1, r2, r3, r4)) :
  Calls Tryd.prog 19 #[.agg #[.int .i64 a0_0, .int .i64 a0_1, .int .i64 a0_2, .slice A0_3 l0_3.length c0_3]] w fun e w' => ∃ v3_ : Value, e = .returned (.agg #[.int .i64 r1, .int .i64 r2, .int .i64 r3, v3_]) ∧ Kd.R k61 61 w' w.heap.size (fun _ => True) v3_ r4 ∧ Below w.heap.size w w' := by
 have hu38 := Tryd.underlying38
 have hu24 := Tryd.underlying24
 have HR0_3 := Am hr0_3
 have HC0_3 := Am hc0_3
 clear hr0_3 hc0_3
 have HB := Am (Below.refl w.heap.size w)
 have H : ((laws_toJumpS.f k l0_3).bind fun tBG => (some (a0_0, a0_1, a0_2, tBG))) = some (r1, r2, r3, r4) := h
 clear h
 replace H := Option.bind_eq_some_iff.mp H
 obtain ⟨tBG, A20, H⟩ := H
 replace H : (some (a0_0, a0_1, a0_2, tBG)) = some (r1, r2, r3, r4) := H
 have A2 := Am A20
 clear A20
 simp only [Option.some.injEq, Prod.mk.injEq] at H
 obtain ⟨rfl, rfl, rfl, rfl⟩ := H
 go_enter Tryd.func19, Tryd.ntmps19
 go_wp2_with (first | ((with_reducible refine gate_dst (N := 1) rfl ?_); refine box_event (by rfl) (N := 1) (by rfl) (cs := #[.int .i64 a0_0, .int .i64 a0_1, .int .i64 a0_2, .slice A0_3 l0_3.length c0_3]) (t := 38) hrS ?_; intro gbBD hg w3 hbox hb; have n0_ := Am (below_step belS hb); have n1_ := Am (hbox); have n2_ := Am (geS hg : w.heap.size ≤ gbBD); have n3_ := n2_; clear HB; revert n0_ n1_ n2_ n3_; intro HB BKBD GWBD GEBD; clear hb hbox hg) | ((with_reducible refine gate_dst (N := 2) rfl ?_); refine box_event (by rfl) (N := 2) (by rfl) (cs := #[.int .i64 0, .int .i64 0, .int .i64 0, .slice none 0 0]) (t := 24) hrS ?_; intro gbBE hg w4 hbox hb; have n0_ := Am (blk_below (blk_up BKBD.out) hb); have n1_ := Am (below_step belS hb); have n2_ := Am (hbox); have n3_ := Am (geS hg : w.heap.size ≤ gbBE); have n4_ := n3_; have n5_ := Am ((by rw [hg]; exact Nat.ne_of_lt (blk_lt (blk_up BKBD.out)) : gbBD ≠ gbBE)); have n6_ := Am ((by rw [hg]; exact Nat.ne_of_gt (blk_lt (blk_up BKBD.out)) : gbBE ≠ gbBD)); clear BKBD HB; revert n0_ n1_ n2_ n3_ n4_ n5_ n6_; intro BKBD HB BKBE GWBE GEBE NBBD_BE NBBE_BD; clear hb hbox hg) | ((with_reducible refine gate_dst (N := 3) rfl ?_); refine box_event (by rfl) (N := 3) (by rfl) (cs := #[.int .i64 0, .int .i64 0, .int .i64 0, .slice none 0 0]) (t := 24) hrS ?_; intro gbBF hg w5 hbox hb; have n0_ := Am (blk_below (blk_up BKBD.out) hb); have n1_ := Am (blk_below (blk_up BKBE.out) hb); have n2_ := Am (below_step belS hb); have n3_ := Am (hbox); have n4_ := Am (geS hg : w.heap.size ≤ gbBF); have n5_ := n4_; have n6_ := Am ((by rw [hg]; exact Nat.ne_of_lt (blk_lt (blk_up BKBD.out)) : gbBD ≠ gbBF)); have n7_ := Am ((by rw [hg]; exact Nat.ne_of_gt (blk_lt (blk_up BKBD.out)) : gbBF ≠ gbBD)); have n8_ := Am ((by rw [hg]; exact Nat.ne_of_lt (blk_lt (blk_up BKBE.out)) : gbBE ≠ gbBF)); have n9_ := Am ((by rw [hg]; exact Nat.ne_of_gt (blk_lt (blk_up BKBE.out)) : gbBF ≠ gbBE)); clear BKBD BKBE HB; revert n0_ n1_ n2_ n3_ n4_ n5_ n6_ n7_ n8_ n9_; intro BKBD BKBE HB BKBF GWBF GEBF NBBD_BF NBBF_BD NBBE_BF NBBF_BE; clear hb hbox hg; have hnb6 := NBBD_BE.out; have hnc6 := NBBE_BD.out; have hnb7 := NBBD_BF.out; have hnc7 := NBBF_BD.out; obtain ⟨hcz8_0, hcz8_1, hcz8_2, hcz8_3, hfz8_0, hfz8_1, hfz8_2, hfz8_3⟩ := blk4 BKBD.out; have hnb9 := NBBF_BE.out; have hnc9 := NBBE_BF.out; obtain ⟨hcz10_0, hcz10_1, hcz10_2, hcz10_3, hfz10_0, hfz10_1, hfz10_2, hfz10_3⟩ := blk4 BKBF.out) | ((with_reducible refine gate_callee (f := 41) rfl ?_); refine goesL_ (some 15) rfl rfl Tryd.func41 (by kernel_rfl) rfl #[.slice A0_3 l0_3.length c0_3] rfl argS ?_; (with_reducible refine (laws_toJumpS.calls k _ _ l0_3 tBG _ ?side1 ?side2 A2.out).mono ?_); (case side1 => exact Kd.C_below HR0_3.out belS); (case side2 => exact HC0_3.out); rintro e w11 ⟨vBH, rfl, ho0, hb⟩; refine ⟨_, rfl, ?_⟩; have n0_ := Am (Kd.R_lower ho0 (below_size belS)); have n1_ := Am (blk_below (g := gbBD) (o := .cells #[.int .i64 a0_0, .int .i64 a0_1, .int .i64 a0_2, .slice A0_3 l0_3.length c0_3] 38 (0, 0)) (by (with_reducible repeat (first | refine blk_drewN ?_ _ | refine blk_drew ?_ | refine blk_alloc ?_ _)); refine blk_farU ?_ NBBD_BF.out _; refine blk_farU ?_ NBBD_BF.out _; refine blk_farU ?_ NBBD_BF.out _; exact BKBD.out) hb); have n2_ := Am (blk_below (g := gbBE) (o := .cells #[.int .i64 0, .int .i64 0, .int .i64 0, .slice none 0 0] 24 (0, 0)) (by (with_reducible repeat (first | refine blk_drewN ?_ _ | refine blk_drew ?_ | refine blk_alloc ?_ _)); refine blk_farU ?_ NBBE_BF.out _; refine blk_farU ?_ NBBE_BF.out _; refine blk_farU ?_ NBBE_BF.out _; exact BKBE.out) hb); have n3_ := Am (blk_below (g := gbBF) (o := .cells #[.int .i64 a0_0, .int .i64 a0_1, .int .i64 a0_2, .slice none 0 0] 24 (0, 0)) (by (with_reducible repeat (first | refine blk_drewN ?_ _ | refine blk_drew ?_ | refine blk_alloc ?_ _)); refine blk_put (cs := #[.int .i64 a0_0, .int .i64 a0_1, .int .i64 0, .slice none 0 0]) ?_ 2 _ rfl; refine blk_put (cs := #[.int .i64 a0_0, .int .i64 0, .int .i64 0, .slice none 0 0]) ?_ 1 _ rfl; refine blk_putU (cs := #[.int .i64 0, .int .i64 0, .int .i64 0, .slice none 0 0]) ?_ 0 _ rfl; exact BKBF.out) hb); have n4_ := Am (below_step belS hb); clear BKBD BKBE BKBF HB; revert n0_ n1_ n2_ n3_ n4_; intro HOBI BKBD BKBE BKBF HB; (try clear hb); (try clear ho0); obtain ⟨Ao12, co12, eo12⟩ := Kd.R_slice HOBI.out; subst eo12; obtain ⟨hcz13_0, hcz13_1, hcz13_2, hcz13_3, hfz13_0, hfz13_1, hfz13_2, hfz13_3⟩ := blk4 BKBF.out; obtain ⟨hcz14_0, hcz14_1, hcz14_2, hcz14_3, hfz14_0, hfz14_1, hfz14_2, hfz14_3⟩ := blk4 BKBE.out))
 refine bodyPost_ret (results_cell_row rfl _ _ gbBE 24 #[.int .i64 a0_0, .int .i64 a0_1, .int .i64 a0_2, .slice Ao12 tBG.length co12] (0, 0) _ rfl (by (with_reducible repeat (first | refine blk_drewN ?_ _ | refine blk_drew ?_ | refine blk_alloc ?_ _)); refine blk_put (cs := #[.int .i64 a0_0, .int .i64 a0_1, .int .i64 a0_2, .slice none 0 0]) ?_ 3 _ rfl; refine blk_put (cs := #[.int .i64 a0_0, .int .i64 a0_1, .int .i64 0, .slice none 0 0]) ?_ 2 _ rfl; refine blk_put (cs := #[.int .i64 a0_0, .int .i64 0, .int .i64 0, .slice none 0 0]) ?_ 1 _ rfl; refine blk_putU (cs := #[.int .i64 0, .int .i64 0, .int .i64 0, .slice none 0 0]) ?_ 0 _ rfl; refine blk_farU ?_ NBBE_BF.out _; exact BKBE.out) Tryd.underlying24 rfl (by kernel_rfl)) rfl ?_
 exact ⟨_, rfE, by (with_reducible repeat (first | apply Kd.R_alloc | apply Kd.R_drewN | apply Kd.R_drew)); exact Kd.R_mono (Kd.R_far (p := ⟨gbBE, 3, none⟩) (Kd.R_far (p := ⟨gbBE, 2, none⟩) (Kd.R_far (p := ⟨gbBE, 1, none⟩) (Kd.R_far (p := ⟨gbBE, 0, none⟩) (Kd.R_far (p := ⟨gbBF, 3, none⟩) (Kd.R_types (Kd.R_types HOBI.out BKBF.out (by decide)) BKBE.out (by decide)) (fun _ hk => hk.1.2) (.slice Ao12 tBG.length co12)) (fun _ hk => hk.2) (.int .i64 a0_0)) (fun _ hk => hk.2) (.int .i64 a0_1)) (fun _ hk => hk.2) (.int .i64 a0_2)) (fun _ hk => hk.2) (.slice Ao12 tBG.length co12)) (fun _ hk => trivial), by exact belS⟩

end

end Go.Proofs.YtnbleinhabllnaaDoor.Pr
