-- A text of the machine side, written by wip/gen.py of this repo out of the translation. Not trusted: Lean checks it.
import Derived.Test.YtkobjjadojpjfaaF0
import Derived.Test.YtkobjjadojpjfaaFGB
import Derived.Test.YtkobjjadojpjfaaFGC
namespace Go.Proofs.Ytkobjjadojpjfaa.Pr
open Go.RowKit Go.Proofs.YtkobjjadojpjfaaW.PrintWords Go.Proofs.YtkobjjadojpjfaaW.PrintLast Go.Proofs.YtkobjjadojpjfaaW.PrintMore
attribute [local go_sem] max2_int min2_int max_two min_two max_three min_three max_four min_four   -- for this text's walks alone
set_option linter.unusedVariables false
set_option linter.unusedSimpArgs false

/-! ### spec_raGood: function 133 -/
def spec_raGood.f (k : Nat) (a0_0 : Int) (a0_1 : Int) (a0_2 : Int) (l0_3 : List (S27)) (a0_4 : Int) (a0_5 : Int) (a0_6 : Int) : Option (Bool) := (spec_sqGood.f k a0_0 a0_1 a0_2 l0_3).bind fun tBE => (if tBE = true then (if a0_0 ≤ 40 then ((spec_l1In.f a0_4 0 1).bind fun tBF => (if tBF = true then ((spec_sqSquare.f k a0_0 a0_1 a0_2 l0_3 a0_5).bind fun tBG => (if tBG = true then ((spec_sqSquare.f k a0_0 a0_1 a0_2 l0_3 a0_6).bind fun tBH => (if tBH = true then (if a0_5 < a0_0 then (some true) else (some (decide (a0_6 < a0_0)))) else (some false))) else (some false))) else (some false))) else (some false)) else (some false))
set_option maxHeartbeats 8000000 in
set_option maxRecDepth 100000 in
theorem spec_raGood.calls (k : Nat) (a0_0 : Int) (a0_1 : Int) (a0_2 : Int) (A0_3 : Option Addr) (c0_3 : Nat) (l0_3 : List (S27)) (a0_4 : Int) (a0_5 : Int) (a0_6 : Int) (r : Bool) (w : World) (hr0_3 : Kd.C k27 w A0_3 l0_3.length l0_3) (hc0_3 : l0_3.length ≤ c0_3) (h : spec_raGood.f k a0_0 a0_1 a0_2 l0_3 a0_4 a0_5 a0_6 = some r) :
  Calls Try.prog 133 #[.agg #[.int .i64 a0_0, .int .i64 a0_1, .int .i64 a0_2, .slice A0_3 l0_3.length c0_3, .int .i64 a0_4, .int .i64 a0_5, .int .i64 a0_6]] w fun e w' => e = .returned (.bool r) ∧ Below w.heap.size w w' := by
 have hu47 := Try.underlying47
 have hu32 := Try.underlying32
 have HR0_3 := Aside0.mk hr0_3
 have HC0_3 := Aside0.mk hc0_3
 clear hr0_3 hc0_3
 have HB := Aside0.mk (Below.refl w.heap.size w)
 have H : ((spec_sqGood.f k a0_0 a0_1 a0_2 l0_3).bind fun tBE => (if tBE = true then (if a0_0 ≤ 40 then ((spec_l1In.f a0_4 0 1).bind fun tBF => (if tBF = true then ((spec_sqSquare.f k a0_0 a0_1 a0_2 l0_3 a0_5).bind fun tBG => (if tBG = true then ((spec_sqSquare.f k a0_0 a0_1 a0_2 l0_3 a0_6).bind fun tBH => (if tBH = true then (if a0_5 < a0_0 then (some true) else (some (decide (a0_6 < a0_0)))) else (some false))) else (some false))) else (some false))) else (some false)) else (some false))) = some r := h
 clear h
 replace H := Option.bind_eq_some_iff.mp H
 obtain ⟨tBE, A20, H⟩ := H
 replace H : (if tBE = true then (if a0_0 ≤ 40 then ((spec_l1In.f a0_4 0 1).bind fun tBF => (if tBF = true then ((spec_sqSquare.f k a0_0 a0_1 a0_2 l0_3 a0_5).bind fun tBG => (if tBG = true then ((spec_sqSquare.f k a0_0 a0_1 a0_2 l0_3 a0_6).bind fun tBH => (if tBH = true then (if a0_5 < a0_0 then (some true) else (some (decide (a0_6 < a0_0)))) else (some false))) else (some false))) else (some false))) else (some false)) else (some false)) = some r := H
 have A2 := Aside0.mk A20
 clear A20
 by_cases c3 : tBE = true
 ·subst c3
  have H1 : (if a0_0 ≤ 40 then ((spec_l1In.f a0_4 0 1).bind fun tBF => (if tBF = true then ((spec_sqSquare.f k a0_0 a0_1 a0_2 l0_3 a0_5).bind fun tBG => (if tBG = true then ((spec_sqSquare.f k a0_0 a0_1 a0_2 l0_3 a0_6).bind fun tBH => (if tBH = true then (if a0_5 < a0_0 then (some true) else (some (decide (a0_6 < a0_0)))) else (some false))) else (some false))) else (some false))) else (some false)) = some r := by rw [if_pos rfl] at H; exact H
  clear H
  have H := H1
  clear H1
  by_cases c4 : a0_0 ≤ 40
  ·rw [if_pos c4] at H
   have c4b0 : decide (a0_0 ≤ 40) = true := decide_eq_true c4
   clear c4
   replace H := Option.bind_eq_some_iff.mp H
   obtain ⟨tBF, A50, H⟩ := H
   replace H : (if tBF = true then ((spec_sqSquare.f k a0_0 a0_1 a0_2 l0_3 a0_5).bind fun tBG => (if tBG = true then ((spec_sqSquare.f k a0_0 a0_1 a0_2 l0_3 a0_6).bind fun tBH => (if tBH = true then (if a0_5 < a0_0 then (some true) else (some (decide (a0_6 < a0_0)))) else (some false))) else (some false))) else (some false)) = some r := H
   have A5 := Aside0.mk A50
   clear A50
   by_cases c6 : tBF = true
   ·subst c6
    have H1 : ((spec_sqSquare.f k a0_0 a0_1 a0_2 l0_3 a0_5).bind fun tBG => (if tBG = true then ((spec_sqSquare.f k a0_0 a0_1 a0_2 l0_3 a0_6).bind fun tBH => (if tBH = true then (if a0_5 < a0_0 then (some true) else (some (decide (a0_6 < a0_0)))) else (some false))) else (some false))) = some r := by rw [if_pos rfl] at H; exact H
    clear H
    have H := H1
    clear H1
    replace H := Option.bind_eq_some_iff.mp H
    obtain ⟨tBG, A70, H⟩ := H
    replace H : (if tBG = true then ((spec_sqSquare.f k a0_0 a0_1 a0_2 l0_3 a0_6).bind fun tBH => (if tBH = true then (if a0_5 < a0_0 then (some true) else (some (decide (a0_6 < a0_0)))) else (some false))) else (some false)) = some r := H
    have A7 := Aside0.mk A70
    clear A70
    by_cases c8 : tBG = true
    ·subst c8
     have H1 : ((spec_sqSquare.f k a0_0 a0_1 a0_2 l0_3 a0_6).bind fun tBH => (if tBH = true then (if a0_5 < a0_0 then (some true) else (some (decide (a0_6 < a0_0)))) else (some false))) = some r := by rw [if_pos rfl] at H; exact H
     clear H
     have H := H1
     clear H1
     replace H := Option.bind_eq_some_iff.mp H
     obtain ⟨tBH, A90, H⟩ := H
     replace H : (if tBH = true then (if a0_5 < a0_0 then (some true) else (some (decide (a0_6 < a0_0)))) else (some false)) = some r := H
     have A9 := Aside0.mk A90
     clear A90
     by_cases c10 : tBH = true
     ·subst c10
      have H1 : (if a0_5 < a0_0 then (some true) else (some (decide (a0_6 < a0_0)))) = some r := by rw [if_pos rfl] at H; exact H
      clear H
      have H := H1
      clear H1
      by_cases c11 : a0_5 < a0_0
      ·rw [if_pos c11] at H
       have c11b0 : decide (a0_5 < a0_0) = true := decide_eq_true c11
       clear c11
       obtain rfl := Option.some.inj H
       go_enter Try.func133, Try.ntmps133
       go_wp2_with (first | ((with_reducible refine gate_dst (N := 1) rfl ?_); refine box_event ?hg (N := 1) ?hd (cs := #[.int .i64 a0_0, .int .i64 a0_1, .int .i64 a0_2, .slice A0_3 l0_3.length c0_3, .int .i64 a0_4, .int .i64 a0_5, .int .i64 a0_6]) (t := 47) ?hr ?_; (case hd => rfl); (case hg => rfl); (case hr => first | (go_simp; done) | (go_simp; rfl)); intro gbBD hg w12 hbox hb; have n0_ := Aside0.mk (below_step belS hb); have n1_ := Aside0.mk (hbox); have n2_ := Aside0.mk ((by rw [hg]; exact (below_size belS) : w.heap.size ≤ gbBD)); have n3_ := n2_; clear HB; have HB := n0_; have BKBD := n1_; have GWBD := n2_; have GEBD := n3_; clear n0_ n1_ n2_ n3_; clear hb hbox hg; obtain ⟨hcz13_0, hcz13_1, hcz13_2, hcz13_3, hcz13_4, hcz13_5, hcz13_6, hfz13_0, hfz13_1, hfz13_2, hfz13_3, hfz13_4, hfz13_5, hfz13_6⟩ := blk7 BKBD.out) | ((with_reducible refine gate_callee (f := 125) rfl ?_); refine goesL_ (some 5) rfl rfl Try.func125 (by kernel_rfl) rfl #[.agg #[.int .i64 a0_0, .int .i64 a0_1, .int .i64 a0_2, .slice A0_3 l0_3.length c0_3]] rfl argS ?_; (with_reducible refine (spec_sqGood.calls k a0_0 a0_1 a0_2 _ _ l0_3 true _ ?side1 ?side2 A2.out).mono ?_); (case side1 => exact Kd.C_up (Kd.C_below HR0_3.out HB.out)); (case side2 => exact HC0_3.out); rintro e w14 ⟨rfl, hb⟩; refine ⟨_, rfl, ?_⟩; have n0_ := Aside0.mk (blk_below (blk_up BKBD.out) hb); have n1_ := Aside0.mk (below_step belS hb); clear BKBD; clear HB; have BKBD := n0_; have HB := n1_; clear n0_ n1_; (try clear hb); (try clear hb2); (try clear hk); (try clear hi); obtain ⟨hcz15_0, hcz15_1, hcz15_2, hcz15_3, hcz15_4, hcz15_5, hcz15_6, hfz15_0, hfz15_1, hfz15_2, hfz15_3, hfz15_4, hfz15_5, hfz15_6⟩ := blk7 BKBD.out) | (go_at_call 136; (with_reducible refine (spec_l1In.calls a0_4 0 1 true _ A5.out).mono ?_); rintro e w' ⟨rfl, ⟨nd, rfl⟩⟩) | (go_at_call 143; (with_reducible refine (spec_sqSquare.calls k a0_0 a0_1 a0_2 _ _ l0_3 a0_5 true _ ?side1 ?side2 A7.out).mono ?_); (case side1 => exact Kd.C_up (Kd.C_below HR0_3.out belS)); (case side2 => exact HC0_3.out); rintro e w16 ⟨rfl, hb⟩; have n0_ := Aside0.mk (blk_below (blk_up BKBD.out) hb); have n1_ := Aside0.mk (below_step belS hb); clear BKBD; clear HB; have BKBD := n0_; have HB := n1_; clear n0_ n1_; (try clear hb); (try clear hb2); (try clear hk); (try clear hi); obtain ⟨hcz17_0, hcz17_1, hcz17_2, hcz17_3, hcz17_4, hcz17_5, hcz17_6, hfz17_0, hfz17_1, hfz17_2, hfz17_3, hfz17_4, hfz17_5, hfz17_6⟩ := blk7 BKBD.out) | (go_at_call 143; (with_reducible refine (spec_sqSquare.calls k a0_0 a0_1 a0_2 _ _ l0_3 a0_6 true _ ?side1 ?side2 A9.out).mono ?_); (case side1 => exact Kd.C_up (Kd.C_below HR0_3.out HB.out)); (case side2 => exact HC0_3.out); rintro e w18 ⟨rfl, hb⟩; have n0_ := Aside0.mk (blk_below (blk_up BKBD.out) hb); have n1_ := Aside0.mk (below_step belS hb); clear BKBD; clear HB; have BKBD := n0_; have HB := n1_; clear n0_ n1_; (try clear hb); (try clear hb2); (try clear hk); (try clear hi); obtain ⟨hcz19_0, hcz19_1, hcz19_2, hcz19_3, hcz19_4, hcz19_5, hcz19_6, hfz19_0, hfz19_1, hfz19_2, hfz19_3, hfz19_4, hfz19_5, hfz19_6⟩ := blk7 BKBD.out))
       go_ret
       exact ⟨by first | rfl | (simp [errW_none, errW_some] <;> rfl) | (simp [*, errW_none, errW_some] <;> rfl), by exact belS⟩
      ·rw [if_neg c11] at H
       have c11b0 : decide (a0_5 < a0_0) = false := decide_eq_false c11
       clear c11
       obtain rfl := Option.some.inj H
       go_enter Try.func133, Try.ntmps133
       go_wp2_with (first | ((with_reducible refine gate_dst (N := 1) rfl ?_); refine box_event ?hg (N := 1) ?hd (cs := #[.int .i64 a0_0, .int .i64 a0_1, .int .i64 a0_2, .slice A0_3 l0_3.length c0_3, .int .i64 a0_4, .int .i64 a0_5, .int .i64 a0_6]) (t := 47) ?hr ?_; (case hd => rfl); (case hg => rfl); (case hr => first | (go_simp; done) | (go_simp; rfl)); intro gbBD hg w20 hbox hb; have n0_ := Aside0.mk (below_step belS hb); have n1_ := Aside0.mk (hbox); have n2_ := Aside0.mk ((by rw [hg]; exact (below_size belS) : w.heap.size ≤ gbBD)); have n3_ := n2_; clear HB; have HB := n0_; have BKBD := n1_; have GWBD := n2_; have GEBD := n3_; clear n0_ n1_ n2_ n3_; clear hb hbox hg; obtain ⟨hcz21_0, hcz21_1, hcz21_2, hcz21_3, hcz21_4, hcz21_5, hcz21_6, hfz21_0, hfz21_1, hfz21_2, hfz21_3, hfz21_4, hfz21_5, hfz21_6⟩ := blk7 BKBD.out) | ((with_reducible refine gate_callee (f := 125) rfl ?_); refine goesL_ (some 5) rfl rfl Try.func125 (by kernel_rfl) rfl #[.agg #[.int .i64 a0_0, .int .i64 a0_1, .int .i64 a0_2, .slice A0_3 l0_3.length c0_3]] rfl argS ?_; (with_reducible refine (spec_sqGood.calls k a0_0 a0_1 a0_2 _ _ l0_3 true _ ?side1 ?side2 A2.out).mono ?_); (case side1 => exact Kd.C_up (Kd.C_below HR0_3.out HB.out)); (case side2 => exact HC0_3.out); rintro e w22 ⟨rfl, hb⟩; refine ⟨_, rfl, ?_⟩; have n0_ := Aside0.mk (blk_below (blk_up BKBD.out) hb); have n1_ := Aside0.mk (below_step belS hb); clear BKBD; clear HB; have BKBD := n0_; have HB := n1_; clear n0_ n1_; (try clear hb); (try clear hb2); (try clear hk); (try clear hi); obtain ⟨hcz23_0, hcz23_1, hcz23_2, hcz23_3, hcz23_4, hcz23_5, hcz23_6, hfz23_0, hfz23_1, hfz23_2, hfz23_3, hfz23_4, hfz23_5, hfz23_6⟩ := blk7 BKBD.out) | (go_at_call 136; (with_reducible refine (spec_l1In.calls a0_4 0 1 true _ A5.out).mono ?_); rintro e w' ⟨rfl, ⟨nd, rfl⟩⟩) | (go_at_call 143; (with_reducible refine (spec_sqSquare.calls k a0_0 a0_1 a0_2 _ _ l0_3 a0_5 true _ ?side1 ?side2 A7.out).mono ?_); (case side1 => exact Kd.C_up (Kd.C_below HR0_3.out belS)); (case side2 => exact HC0_3.out); rintro e w24 ⟨rfl, hb⟩; have n0_ := Aside0.mk (blk_below (blk_up BKBD.out) hb); have n1_ := Aside0.mk (below_step belS hb); clear BKBD; clear HB; have BKBD := n0_; have HB := n1_; clear n0_ n1_; (try clear hb); (try clear hb2); (try clear hk); (try clear hi); obtain ⟨hcz25_0, hcz25_1, hcz25_2, hcz25_3, hcz25_4, hcz25_5, hcz25_6, hfz25_0, hfz25_1, hfz25_2, hfz25_3, hfz25_4, hfz25_5, hfz25_6⟩ := blk7 BKBD.out) | (go_at_call 143; (with_reducible refine (spec_sqSquare.calls k a0_0 a0_1 a0_2 _ _ l0_3 a0_6 true _ ?side1 ?side2 A9.out).mono ?_); (case side1 => exact Kd.C_up (Kd.C_below HR0_3.out HB.out)); (case side2 => exact HC0_3.out); rintro e w26 ⟨rfl, hb⟩; have n0_ := Aside0.mk (blk_below (blk_up BKBD.out) hb); have n1_ := Aside0.mk (below_step belS hb); clear BKBD; clear HB; have BKBD := n0_; have HB := n1_; clear n0_ n1_; (try clear hb); (try clear hb2); (try clear hk); (try clear hi); obtain ⟨hcz27_0, hcz27_1, hcz27_2, hcz27_3, hcz27_4, hcz27_5, hcz27_6, hfz27_0, hfz27_1, hfz27_2, hfz27_3, hfz27_4, hfz27_5, hfz27_6⟩ := blk7 BKBD.out))
       go_ret
       exact ⟨by first | rfl | (simp [errW_none, errW_some] <;> rfl) | (simp [*, errW_none, errW_some] <;> rfl), by exact belS⟩
     ·replace c10 := Bool.eq_false_iff.mpr c10
      subst c10
      have H1 : (some false) = some r := by rw [if_neg (show ¬ (false = true) by decide)] at H; exact H
      clear H
      have H := H1
      clear H1
      obtain rfl := Option.some.inj H
      go_enter Try.func133, Try.ntmps133
      go_wp2_with (first | ((with_reducible refine gate_dst (N := 1) rfl ?_); refine box_event ?hg (N := 1) ?hd (cs := #[.int .i64 a0_0, .int .i64 a0_1, .int .i64 a0_2, .slice A0_3 l0_3.length c0_3, .int .i64 a0_4, .int .i64 a0_5, .int .i64 a0_6]) (t := 47) ?hr ?_; (case hd => rfl); (case hg => rfl); (case hr => first | (go_simp; done) | (go_simp; rfl)); intro gbBD hg w28 hbox hb; have n0_ := Aside0.mk (below_step belS hb); have n1_ := Aside0.mk (hbox); have n2_ := Aside0.mk ((by rw [hg]; exact (below_size belS) : w.heap.size ≤ gbBD)); have n3_ := n2_; clear HB; have HB := n0_; have BKBD := n1_; have GWBD := n2_; have GEBD := n3_; clear n0_ n1_ n2_ n3_; clear hb hbox hg; obtain ⟨hcz29_0, hcz29_1, hcz29_2, hcz29_3, hcz29_4, hcz29_5, hcz29_6, hfz29_0, hfz29_1, hfz29_2, hfz29_3, hfz29_4, hfz29_5, hfz29_6⟩ := blk7 BKBD.out) | ((with_reducible refine gate_callee (f := 125) rfl ?_); refine goesL_ (some 5) rfl rfl Try.func125 (by kernel_rfl) rfl #[.agg #[.int .i64 a0_0, .int .i64 a0_1, .int .i64 a0_2, .slice A0_3 l0_3.length c0_3]] rfl argS ?_; (with_reducible refine (spec_sqGood.calls k a0_0 a0_1 a0_2 _ _ l0_3 true _ ?side1 ?side2 A2.out).mono ?_); (case side1 => exact Kd.C_up (Kd.C_below HR0_3.out HB.out)); (case side2 => exact HC0_3.out); rintro e w30 ⟨rfl, hb⟩; refine ⟨_, rfl, ?_⟩; have n0_ := Aside0.mk (blk_below (blk_up BKBD.out) hb); have n1_ := Aside0.mk (below_step belS hb); clear BKBD; clear HB; have BKBD := n0_; have HB := n1_; clear n0_ n1_; (try clear hb); (try clear hb2); (try clear hk); (try clear hi); obtain ⟨hcz31_0, hcz31_1, hcz31_2, hcz31_3, hcz31_4, hcz31_5, hcz31_6, hfz31_0, hfz31_1, hfz31_2, hfz31_3, hfz31_4, hfz31_5, hfz31_6⟩ := blk7 BKBD.out) | (go_at_call 136; (with_reducible refine (spec_l1In.calls a0_4 0 1 true _ A5.out).mono ?_); rintro e w' ⟨rfl, ⟨nd, rfl⟩⟩) | (go_at_call 143; (with_reducible refine (spec_sqSquare.calls k a0_0 a0_1 a0_2 _ _ l0_3 a0_5 true _ ?side1 ?side2 A7.out).mono ?_); (case side1 => exact Kd.C_up (Kd.C_below HR0_3.out belS)); (case side2 => exact HC0_3.out); rintro e w32 ⟨rfl, hb⟩; have n0_ := Aside0.mk (blk_below (blk_up BKBD.out) hb); have n1_ := Aside0.mk (below_step belS hb); clear BKBD; clear HB; have BKBD := n0_; have HB := n1_; clear n0_ n1_; (try clear hb); (try clear hb2); (try clear hk); (try clear hi); obtain ⟨hcz33_0, hcz33_1, hcz33_2, hcz33_3, hcz33_4, hcz33_5, hcz33_6, hfz33_0, hfz33_1, hfz33_2, hfz33_3, hfz33_4, hfz33_5, hfz33_6⟩ := blk7 BKBD.out) | (go_at_call 143; (with_reducible refine (spec_sqSquare.calls k a0_0 a0_1 a0_2 _ _ l0_3 a0_6 false _ ?side1 ?side2 A9.out).mono ?_); (case side1 => exact Kd.C_up (Kd.C_below HR0_3.out HB.out)); (case side2 => exact HC0_3.out); rintro e w34 ⟨rfl, hb⟩; have n0_ := Aside0.mk (blk_below (blk_up BKBD.out) hb); have n1_ := Aside0.mk (below_step belS hb); clear BKBD; clear HB; have BKBD := n0_; have HB := n1_; clear n0_ n1_; (try clear hb); (try clear hb2); (try clear hk); (try clear hi)))
      go_ret
      exact ⟨by first | rfl | (simp [errW_none, errW_some] <;> rfl) | (simp [*, errW_none, errW_some] <;> rfl), by exact belS⟩
    ·replace c8 := Bool.eq_false_iff.mpr c8
     subst c8
     have H1 : (some false) = some r := by rw [if_neg (show ¬ (false = true) by decide)] at H; exact H
     clear H
     have H := H1
     clear H1
     obtain rfl := Option.some.inj H
     go_enter Try.func133, Try.ntmps133
     go_wp2_with (first | ((with_reducible refine gate_dst (N := 1) rfl ?_); refine box_event ?hg (N := 1) ?hd (cs := #[.int .i64 a0_0, .int .i64 a0_1, .int .i64 a0_2, .slice A0_3 l0_3.length c0_3, .int .i64 a0_4, .int .i64 a0_5, .int .i64 a0_6]) (t := 47) ?hr ?_; (case hd => rfl); (case hg => rfl); (case hr => first | (go_simp; done) | (go_simp; rfl)); intro gbBD hg w35 hbox hb; have n0_ := Aside0.mk (below_step belS hb); have n1_ := Aside0.mk (hbox); have n2_ := Aside0.mk ((by rw [hg]; exact (below_size belS) : w.heap.size ≤ gbBD)); have n3_ := n2_; clear HB; have HB := n0_; have BKBD := n1_; have GWBD := n2_; have GEBD := n3_; clear n0_ n1_ n2_ n3_; clear hb hbox hg; obtain ⟨hcz36_0, hcz36_1, hcz36_2, hcz36_3, hcz36_4, hcz36_5, hcz36_6, hfz36_0, hfz36_1, hfz36_2, hfz36_3, hfz36_4, hfz36_5, hfz36_6⟩ := blk7 BKBD.out) | ((with_reducible refine gate_callee (f := 125) rfl ?_); refine goesL_ (some 5) rfl rfl Try.func125 (by kernel_rfl) rfl #[.agg #[.int .i64 a0_0, .int .i64 a0_1, .int .i64 a0_2, .slice A0_3 l0_3.length c0_3]] rfl argS ?_; (with_reducible refine (spec_sqGood.calls k a0_0 a0_1 a0_2 _ _ l0_3 true _ ?side1 ?side2 A2.out).mono ?_); (case side1 => exact Kd.C_up (Kd.C_below HR0_3.out HB.out)); (case side2 => exact HC0_3.out); rintro e w37 ⟨rfl, hb⟩; refine ⟨_, rfl, ?_⟩; have n0_ := Aside0.mk (blk_below (blk_up BKBD.out) hb); have n1_ := Aside0.mk (below_step belS hb); clear BKBD; clear HB; have BKBD := n0_; have HB := n1_; clear n0_ n1_; (try clear hb); (try clear hb2); (try clear hk); (try clear hi); obtain ⟨hcz38_0, hcz38_1, hcz38_2, hcz38_3, hcz38_4, hcz38_5, hcz38_6, hfz38_0, hfz38_1, hfz38_2, hfz38_3, hfz38_4, hfz38_5, hfz38_6⟩ := blk7 BKBD.out) | (go_at_call 136; (with_reducible refine (spec_l1In.calls a0_4 0 1 true _ A5.out).mono ?_); rintro e w' ⟨rfl, ⟨nd, rfl⟩⟩) | (go_at_call 143; (with_reducible refine (spec_sqSquare.calls k a0_0 a0_1 a0_2 _ _ l0_3 a0_5 false _ ?side1 ?side2 A7.out).mono ?_); (case side1 => exact Kd.C_up (Kd.C_below HR0_3.out belS)); (case side2 => exact HC0_3.out); rintro e w39 ⟨rfl, hb⟩; have n0_ := Aside0.mk (blk_below (blk_up BKBD.out) hb); have n1_ := Aside0.mk (below_step belS hb); clear BKBD; clear HB; have BKBD := n0_; have HB := n1_; clear n0_ n1_; (try clear hb); (try clear hb2); (try clear hk); (try clear hi)))
     go_ret
     exact ⟨by first | rfl | (simp [errW_none, errW_some] <;> rfl) | (simp [*, errW_none, errW_some] <;> rfl), by exact belS⟩
   ·replace c6 := Bool.eq_false_iff.mpr c6
    subst c6
    have H1 : (some false) = some r := by rw [if_neg (show ¬ (false = true) by decide)] at H; exact H
    clear H
    have H := H1
    clear H1
    obtain rfl := Option.some.inj H
    go_enter Try.func133, Try.ntmps133
    go_wp2_with (first | ((with_reducible refine gate_dst (N := 1) rfl ?_); refine box_event ?hg (N := 1) ?hd (cs := #[.int .i64 a0_0, .int .i64 a0_1, .int .i64 a0_2, .slice A0_3 l0_3.length c0_3, .int .i64 a0_4, .int .i64 a0_5, .int .i64 a0_6]) (t := 47) ?hr ?_; (case hd => rfl); (case hg => rfl); (case hr => first | (go_simp; done) | (go_simp; rfl)); intro gbBD hg w40 hbox hb; have n0_ := Aside0.mk (below_step belS hb); have n1_ := Aside0.mk (hbox); have n2_ := Aside0.mk ((by rw [hg]; exact (below_size belS) : w.heap.size ≤ gbBD)); have n3_ := n2_; clear HB; have HB := n0_; have BKBD := n1_; have GWBD := n2_; have GEBD := n3_; clear n0_ n1_ n2_ n3_; clear hb hbox hg; obtain ⟨hcz41_0, hcz41_1, hcz41_2, hcz41_3, hcz41_4, hcz41_5, hcz41_6, hfz41_0, hfz41_1, hfz41_2, hfz41_3, hfz41_4, hfz41_5, hfz41_6⟩ := blk7 BKBD.out) | ((with_reducible refine gate_callee (f := 125) rfl ?_); refine goesL_ (some 5) rfl rfl Try.func125 (by kernel_rfl) rfl #[.agg #[.int .i64 a0_0, .int .i64 a0_1, .int .i64 a0_2, .slice A0_3 l0_3.length c0_3]] rfl argS ?_; (with_reducible refine (spec_sqGood.calls k a0_0 a0_1 a0_2 _ _ l0_3 true _ ?side1 ?side2 A2.out).mono ?_); (case side1 => exact Kd.C_up (Kd.C_below HR0_3.out HB.out)); (case side2 => exact HC0_3.out); rintro e w42 ⟨rfl, hb⟩; refine ⟨_, rfl, ?_⟩; have n0_ := Aside0.mk (blk_below (blk_up BKBD.out) hb); have n1_ := Aside0.mk (below_step belS hb); clear BKBD; clear HB; have BKBD := n0_; have HB := n1_; clear n0_ n1_; (try clear hb); (try clear hb2); (try clear hk); (try clear hi); obtain ⟨hcz43_0, hcz43_1, hcz43_2, hcz43_3, hcz43_4, hcz43_5, hcz43_6, hfz43_0, hfz43_1, hfz43_2, hfz43_3, hfz43_4, hfz43_5, hfz43_6⟩ := blk7 BKBD.out) | (go_at_call 136; (with_reducible refine (spec_l1In.calls a0_4 0 1 false _ A5.out).mono ?_); rintro e w' ⟨rfl, ⟨nd, rfl⟩⟩))
    go_ret
    exact ⟨by first | rfl | (simp [errW_none, errW_some] <;> rfl) | (simp [*, errW_none, errW_some] <;> rfl), by exact belS⟩
  ·rw [if_neg c4] at H
   have c4b0 : decide (a0_0 ≤ 40) = false := decide_eq_false c4
   clear c4
   obtain rfl := Option.some.inj H
   go_enter Try.func133, Try.ntmps133
   go_wp2_with (first | ((with_reducible refine gate_dst (N := 1) rfl ?_); refine box_event ?hg (N := 1) ?hd (cs := #[.int .i64 a0_0, .int .i64 a0_1, .int .i64 a0_2, .slice A0_3 l0_3.length c0_3, .int .i64 a0_4, .int .i64 a0_5, .int .i64 a0_6]) (t := 47) ?hr ?_; (case hd => rfl); (case hg => rfl); (case hr => first | (go_simp; done) | (go_simp; rfl)); intro gbBD hg w44 hbox hb; have n0_ := Aside0.mk (below_step belS hb); have n1_ := Aside0.mk (hbox); have n2_ := Aside0.mk ((by rw [hg]; exact (below_size belS) : w.heap.size ≤ gbBD)); have n3_ := n2_; clear HB; have HB := n0_; have BKBD := n1_; have GWBD := n2_; have GEBD := n3_; clear n0_ n1_ n2_ n3_; clear hb hbox hg; obtain ⟨hcz45_0, hcz45_1, hcz45_2, hcz45_3, hcz45_4, hcz45_5, hcz45_6, hfz45_0, hfz45_1, hfz45_2, hfz45_3, hfz45_4, hfz45_5, hfz45_6⟩ := blk7 BKBD.out) | ((with_reducible refine gate_callee (f := 125) rfl ?_); refine goesL_ (some 5) rfl rfl Try.func125 (by kernel_rfl) rfl #[.agg #[.int .i64 a0_0, .int .i64 a0_1, .int .i64 a0_2, .slice A0_3 l0_3.length c0_3]] rfl argS ?_; (with_reducible refine (spec_sqGood.calls k a0_0 a0_1 a0_2 _ _ l0_3 true _ ?side1 ?side2 A2.out).mono ?_); (case side1 => exact Kd.C_up (Kd.C_below HR0_3.out HB.out)); (case side2 => exact HC0_3.out); rintro e w46 ⟨rfl, hb⟩; refine ⟨_, rfl, ?_⟩; have n0_ := Aside0.mk (blk_below (blk_up BKBD.out) hb); have n1_ := Aside0.mk (below_step belS hb); clear BKBD; clear HB; have BKBD := n0_; have HB := n1_; clear n0_ n1_; (try clear hb); (try clear hb2); (try clear hk); (try clear hi); obtain ⟨hcz47_0, hcz47_1, hcz47_2, hcz47_3, hcz47_4, hcz47_5, hcz47_6, hfz47_0, hfz47_1, hfz47_2, hfz47_3, hfz47_4, hfz47_5, hfz47_6⟩ := blk7 BKBD.out))
   go_ret
   exact ⟨by first | rfl | (simp [errW_none, errW_some] <;> rfl) | (simp [*, errW_none, errW_some] <;> rfl), by exact belS⟩
 ·replace c3 := Bool.eq_false_iff.mpr c3
  subst c3
  have H1 : (some false) = some r := by rw [if_neg (show ¬ (false = true) by decide)] at H; exact H
  clear H
  have H := H1
  clear H1
  obtain rfl := Option.some.inj H
  go_enter Try.func133, Try.ntmps133
  go_wp2_with (first | ((with_reducible refine gate_dst (N := 1) rfl ?_); refine box_event ?hg (N := 1) ?hd (cs := #[.int .i64 a0_0, .int .i64 a0_1, .int .i64 a0_2, .slice A0_3 l0_3.length c0_3, .int .i64 a0_4, .int .i64 a0_5, .int .i64 a0_6]) (t := 47) ?hr ?_; (case hd => rfl); (case hg => rfl); (case hr => first | (go_simp; done) | (go_simp; rfl)); intro gbBD hg w48 hbox hb; have n0_ := Aside0.mk (below_step belS hb); have n1_ := Aside0.mk (hbox); have n2_ := Aside0.mk ((by rw [hg]; exact (below_size belS) : w.heap.size ≤ gbBD)); have n3_ := n2_; clear HB; have HB := n0_; have BKBD := n1_; have GWBD := n2_; have GEBD := n3_; clear n0_ n1_ n2_ n3_; clear hb hbox hg; obtain ⟨hcz49_0, hcz49_1, hcz49_2, hcz49_3, hcz49_4, hcz49_5, hcz49_6, hfz49_0, hfz49_1, hfz49_2, hfz49_3, hfz49_4, hfz49_5, hfz49_6⟩ := blk7 BKBD.out) | ((with_reducible refine gate_callee (f := 125) rfl ?_); refine goesL_ (some 5) rfl rfl Try.func125 (by kernel_rfl) rfl #[.agg #[.int .i64 a0_0, .int .i64 a0_1, .int .i64 a0_2, .slice A0_3 l0_3.length c0_3]] rfl argS ?_; (with_reducible refine (spec_sqGood.calls k a0_0 a0_1 a0_2 _ _ l0_3 false _ ?side1 ?side2 A2.out).mono ?_); (case side1 => exact Kd.C_up (Kd.C_below HR0_3.out HB.out)); (case side2 => exact HC0_3.out); rintro e w50 ⟨rfl, hb⟩; refine ⟨_, rfl, ?_⟩; have n0_ := Aside0.mk (blk_below (blk_up BKBD.out) hb); have n1_ := Aside0.mk (below_step belS hb); clear BKBD; clear HB; have BKBD := n0_; have HB := n1_; clear n0_ n1_; (try clear hb); (try clear hb2); (try clear hk); (try clear hi)))
  go_ret
  exact ⟨by first | rfl | (simp [errW_none, errW_some] <;> rfl) | (simp [*, errW_none, errW_some] <;> rfl), by exact belS⟩

end Go.Proofs.Ytkobjjadojpjfaa.Pr
