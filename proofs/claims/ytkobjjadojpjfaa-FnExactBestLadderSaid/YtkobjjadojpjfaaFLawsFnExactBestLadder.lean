-- A text of the machine side, written by wip/gen.py of this repo out of the translation. Not trusted: Lean checks it.
import Derived.Test.YtkobjjadojpjfaaF0
import Derived.Test.YtkobjjadojpjfaaFGA
import Derived.Test.YtkobjjadojpjfaaFImplBestLadder
import Derived.Test.YtkobjjadojpjfaaFSpecBestLadder
namespace Go.Proofs.Ytkobjjadojpjfaa.Pr
open Go.RowKit Go.Proofs.YtkobjjadojpjfaaW.PrintWords Go.Proofs.YtkobjjadojpjfaaW.PrintLast Go.Proofs.YtkobjjadojpjfaaW.PrintMore
attribute [local go_sem] max2_int min2_int max_two min_two max_three min_three max_four min_four   -- for this text's walks alone
set_option linter.unusedVariables false
set_option linter.unusedSimpArgs false

/-! ### laws_FnExactBestLadder: function 3 -/
def laws_FnExactBestLadder.j0 : Nat → Bool → Int → Int → Int → List (S82) → Int → Int → Int → List (S27) → Option (Bool)
 | 0, _, _, _, _, _, _, _, _, _ => none
 | k + 1, x44, xBE000, xBE001, xBE002, xBE003, xBX000, xBX001, xBX002, xBX003 => if x44 = true then (some false) else ((laws_toBoard.f k xBE000 xBE001 xBE002 xBE003).bind fun btC3 => ((laws_eqBoard.f k xBX000 xBX001 xBX002 xBX003 btC3.1 btC3.2.1 btC3.2.2.1 btC3.2.2.2).bind fun tC9 => (if tC9 = true then (some true) else (some false))))
def laws_FnExactBestLadder.f (k : Nat) (a0_0 : Int) (a0_1 : Int) (a0_2 : Int) (l0_3 : List (S82)) : Option (Bool) := (laws_szBoard.f a0_0 a0_1 a0_2 l0_3 1048576).bind fun tBE => (if tBE < 0 then (some true) else ((laws_toBoard.f k a0_0 a0_1 a0_2 l0_3).bind fun btBF => ((spec_BestLadder.f k btBF.1 btBF.2.1 btBF.2.2.1 btBF.2.2.2).bind fun btBL => ((laws_toBoard.f k a0_0 a0_1 a0_2 l0_3).bind fun btBQ => ((impl_BestLadder.f k btBQ.1 btBQ.2.1 btBQ.2.2.1 btBQ.2.2.2).bind fun btBX => ((laws_eqJump.f btBX.1 btBX.2.1 btBL.1 btBL.2.1).bind fun tC2 => (if tC2 = true then (if btBX.2.2.1 = btBL.2.2.1 then (laws_FnExactBestLadder.j0 k (btBX.2.2.2 != btBL.2.2.2) a0_0 a0_1 a0_2 l0_3 btBQ.1 btBQ.2.1 btBQ.2.2.1 btBQ.2.2.2) else (laws_FnExactBestLadder.j0 k true a0_0 a0_1 a0_2 l0_3 btBQ.1 btBQ.2.1 btBQ.2.2.1 btBQ.2.2.2)) else (laws_FnExactBestLadder.j0 k true a0_0 a0_1 a0_2 l0_3 btBQ.1 btBQ.2.1 btBQ.2.2.1 btBQ.2.2.2))))))))
set_option maxHeartbeats 8000000 in
set_option maxRecDepth 100000 in
theorem laws_FnExactBestLadder.calls (k : Nat) (a0_0 : Int) (a0_1 : Int) (a0_2 : Int) (A0_3 : Option Addr) (c0_3 : Nat) (l0_3 : List (S82)) (r : Bool) (w : World) (hr0_3 : Kd.C k82 w A0_3 l0_3.length l0_3) (hc0_3 : l0_3.length ≤ c0_3) (h : laws_FnExactBestLadder.f k a0_0 a0_1 a0_2 l0_3 = some r) :
  Calls Try.prog 3 #[.agg #[.int .i64 a0_0, .int .i64 a0_1, .int .i64 a0_2, .slice A0_3 l0_3.length c0_3]] w fun e w' => e = .returned (.bool r) ∧ Below w.heap.size w w' := by
 have hu24 := Try.underlying24
 have hu27 := Try.underlying27
 have hu32 := Try.underlying32
 have HR0_3 := Am hr0_3
 have HC0_3 := Am hc0_3
 clear hr0_3 hc0_3
 have HB := Am (Below.refl w.heap.size w)
 have H : ((laws_szBoard.f a0_0 a0_1 a0_2 l0_3 1048576).bind fun tBE => (if tBE < 0 then (some true) else ((laws_toBoard.f k a0_0 a0_1 a0_2 l0_3).bind fun btBF => ((spec_BestLadder.f k btBF.1 btBF.2.1 btBF.2.2.1 btBF.2.2.2).bind fun btBL => ((laws_toBoard.f k a0_0 a0_1 a0_2 l0_3).bind fun btBQ => ((impl_BestLadder.f k btBQ.1 btBQ.2.1 btBQ.2.2.1 btBQ.2.2.2).bind fun btBX => ((laws_eqJump.f btBX.1 btBX.2.1 btBL.1 btBL.2.1).bind fun tC2 => (if tC2 = true then (if btBX.2.2.1 = btBL.2.2.1 then (laws_FnExactBestLadder.j0 k (btBX.2.2.2 != btBL.2.2.2) a0_0 a0_1 a0_2 l0_3 btBQ.1 btBQ.2.1 btBQ.2.2.1 btBQ.2.2.2) else (laws_FnExactBestLadder.j0 k true a0_0 a0_1 a0_2 l0_3 btBQ.1 btBQ.2.1 btBQ.2.2.1 btBQ.2.2.2)) else (laws_FnExactBestLadder.j0 k true a0_0 a0_1 a0_2 l0_3 btBQ.1 btBQ.2.1 btBQ.2.2.1 btBQ.2.2.2))))))))) = some r := h
 clear h
 replace H := Option.bind_eq_some_iff.mp H
 obtain ⟨tBE, A20, H⟩ := H
 replace H : (if tBE < 0 then (some true) else ((laws_toBoard.f k a0_0 a0_1 a0_2 l0_3).bind fun btBF => ((spec_BestLadder.f k btBF.1 btBF.2.1 btBF.2.2.1 btBF.2.2.2).bind fun btBL => ((laws_toBoard.f k a0_0 a0_1 a0_2 l0_3).bind fun btBQ => ((impl_BestLadder.f k btBQ.1 btBQ.2.1 btBQ.2.2.1 btBQ.2.2.2).bind fun btBX => ((laws_eqJump.f btBX.1 btBX.2.1 btBL.1 btBL.2.1).bind fun tC2 => (if tC2 = true then (if btBX.2.2.1 = btBL.2.2.1 then (laws_FnExactBestLadder.j0 k (btBX.2.2.2 != btBL.2.2.2) a0_0 a0_1 a0_2 l0_3 btBQ.1 btBQ.2.1 btBQ.2.2.1 btBQ.2.2.2) else (laws_FnExactBestLadder.j0 k true a0_0 a0_1 a0_2 l0_3 btBQ.1 btBQ.2.1 btBQ.2.2.1 btBQ.2.2.2)) else (laws_FnExactBestLadder.j0 k true a0_0 a0_1 a0_2 l0_3 btBQ.1 btBQ.2.1 btBQ.2.2.1 btBQ.2.2.2)))))))) = some r := H
 have A2 := Am A20
 clear A20
 by_cases c3 : tBE < 0
 ·rw [if_pos c3] at H
  have c3b0 : decide (tBE < 0) = true := decide_eq_true c3
  clear c3
  obtain rfl := Option.some.inj H
  go_enter Try.func3, Try.ntmps3
  go_wp2_with (first | ((with_reducible refine gate_dst (N := 1) rfl ?_); refine box_event (by rfl) (N := 1) (by rfl) (cs := #[.int .i64 a0_0, .int .i64 a0_1, .int .i64 a0_2, .slice A0_3 l0_3.length c0_3]) (t := 24) hrS ?_; intro gbBD hg w4 hbox hb; have n0_ := Am (below_step belS hb); have n1_ := Am (hbox); have n2_ := Am (geS hg : w.heap.size ≤ gbBD); have n3_ := n2_; clear HB; revert n0_ n1_ n2_ n3_; intro HB BKBD GWBD GEBD; clear hb hbox hg; obtain ⟨hcz5_0, hcz5_1, hcz5_2, hcz5_3, hfz5_0, hfz5_1, hfz5_2, hfz5_3⟩ := blk4 BKBD.out) | ((with_reducible refine gate_callee (f := 37) rfl ?_); refine goesL_ (some 13) rfl rfl Try.func37 (by kernel_rfl) rfl #[.agg #[.int .i64 a0_0, .int .i64 a0_1, .int .i64 a0_2, .slice A0_3 l0_3.length c0_3], .int .i64 1048576] rfl argS ?_; (with_reducible refine (laws_szBoard.calls a0_0 a0_1 a0_2 _ _ l0_3 1048576 tBE _ ?side1 ?side2 A2.out).mono ?_); (case side1 => exact Kd.C_up (Kd.C_below HR0_3.out HB.out)); (case side2 => exact HC0_3.out); rintro e w6 ⟨rfl, hb⟩; refine ⟨_, rfl, ?_⟩; have n0_ := Am (blk_below (blk_up BKBD.out) hb); have n1_ := Am (below_step belS hb); clear BKBD HB; revert n0_ n1_; intro BKBD HB; (try clear hb)))
  go_ret
  exact ⟨rfE, by exact belS⟩
 ·rw [if_neg c3] at H
  have c3b0 : decide (tBE < 0) = false := decide_eq_false c3
  clear c3
  replace H := Option.bind_eq_some_iff.mp H
  obtain ⟨⟨tBF, tBG, tBH, tBI⟩, A70, H⟩ := H
  replace H : ((spec_BestLadder.f k tBF tBG tBH tBI).bind fun btBL => ((laws_toBoard.f k a0_0 a0_1 a0_2 l0_3).bind fun btBQ => ((impl_BestLadder.f k btBQ.1 btBQ.2.1 btBQ.2.2.1 btBQ.2.2.2).bind fun btBX => ((laws_eqJump.f btBX.1 btBX.2.1 btBL.1 btBL.2.1).bind fun tC2 => (if tC2 = true then (if btBX.2.2.1 = btBL.2.2.1 then (laws_FnExactBestLadder.j0 k (btBX.2.2.2 != btBL.2.2.2) a0_0 a0_1 a0_2 l0_3 btBQ.1 btBQ.2.1 btBQ.2.2.1 btBQ.2.2.2) else (laws_FnExactBestLadder.j0 k true a0_0 a0_1 a0_2 l0_3 btBQ.1 btBQ.2.1 btBQ.2.2.1 btBQ.2.2.2)) else (laws_FnExactBestLadder.j0 k true a0_0 a0_1 a0_2 l0_3 btBQ.1 btBQ.2.1 btBQ.2.2.1 btBQ.2.2.2)))))) = some r := H
  have A7 := Am A70
  clear A70
  replace H := Option.bind_eq_some_iff.mp H
  obtain ⟨⟨tBL, tBM, tBN, tBO⟩, A80, H⟩ := H
  replace H : ((laws_toBoard.f k a0_0 a0_1 a0_2 l0_3).bind fun btBQ => ((impl_BestLadder.f k btBQ.1 btBQ.2.1 btBQ.2.2.1 btBQ.2.2.2).bind fun btBX => ((laws_eqJump.f btBX.1 btBX.2.1 tBL tBM).bind fun tC2 => (if tC2 = true then (if btBX.2.2.1 = tBN then (laws_FnExactBestLadder.j0 k (btBX.2.2.2 != tBO) a0_0 a0_1 a0_2 l0_3 btBQ.1 btBQ.2.1 btBQ.2.2.1 btBQ.2.2.2) else (laws_FnExactBestLadder.j0 k true a0_0 a0_1 a0_2 l0_3 btBQ.1 btBQ.2.1 btBQ.2.2.1 btBQ.2.2.2)) else (laws_FnExactBestLadder.j0 k true a0_0 a0_1 a0_2 l0_3 btBQ.1 btBQ.2.1 btBQ.2.2.1 btBQ.2.2.2))))) = some r := H
  have A8 := Am A80
  clear A80
  replace H := Option.bind_eq_some_iff.mp H
  obtain ⟨⟨tBQ, tBR, tBS, tBT⟩, A90, H⟩ := H
  replace H : ((impl_BestLadder.f k tBQ tBR tBS tBT).bind fun btBX => ((laws_eqJump.f btBX.1 btBX.2.1 tBL tBM).bind fun tC2 => (if tC2 = true then (if btBX.2.2.1 = tBN then (laws_FnExactBestLadder.j0 k (btBX.2.2.2 != tBO) a0_0 a0_1 a0_2 l0_3 tBQ tBR tBS tBT) else (laws_FnExactBestLadder.j0 k true a0_0 a0_1 a0_2 l0_3 tBQ tBR tBS tBT)) else (laws_FnExactBestLadder.j0 k true a0_0 a0_1 a0_2 l0_3 tBQ tBR tBS tBT)))) = some r := H
  have A9 := Am A90
  clear A90
  replace H := Option.bind_eq_some_iff.mp H
  obtain ⟨⟨tBX, tBY, tBZ, tC0⟩, A100, H⟩ := H
  replace H : ((laws_eqJump.f tBX tBY tBL tBM).bind fun tC2 => (if tC2 = true then (if tBZ = tBN then (laws_FnExactBestLadder.j0 k (tC0 != tBO) a0_0 a0_1 a0_2 l0_3 tBQ tBR tBS tBT) else (laws_FnExactBestLadder.j0 k true a0_0 a0_1 a0_2 l0_3 tBQ tBR tBS tBT)) else (laws_FnExactBestLadder.j0 k true a0_0 a0_1 a0_2 l0_3 tBQ tBR tBS tBT))) = some r := H
  have A10 := Am A100
  clear A100
  have HC11 := Am H
  clear H
  go_enter Try.func3, Try.ntmps3
  go_upto_region 8 with (first | ((with_reducible refine gate_dst (N := 1) rfl ?_); refine box_event (by rfl) (N := 1) (by rfl) (cs := #[.int .i64 a0_0, .int .i64 a0_1, .int .i64 a0_2, .slice A0_3 l0_3.length c0_3]) (t := 24) hrS ?_; intro gbBD hg w12 hbox hb; have n0_ := Am (below_step belS hb); have n1_ := Am (hbox); have n2_ := Am (geS hg : w.heap.size ≤ gbBD); have n3_ := n2_; clear HB; revert n0_ n1_ n2_ n3_; intro HB BKBD GWBD GEBD; clear hb hbox hg; obtain ⟨hcz13_0, hcz13_1, hcz13_2, hcz13_3, hfz13_0, hfz13_1, hfz13_2, hfz13_3⟩ := blk4 BKBD.out) | ((with_reducible refine gate_callee (f := 37) rfl ?_); refine goesL_ (some 13) rfl rfl Try.func37 (by kernel_rfl) rfl #[.agg #[.int .i64 a0_0, .int .i64 a0_1, .int .i64 a0_2, .slice A0_3 l0_3.length c0_3], .int .i64 1048576] rfl argS ?_; (with_reducible refine (laws_szBoard.calls a0_0 a0_1 a0_2 _ _ l0_3 1048576 tBE _ ?side1 ?side2 A2.out).mono ?_); (case side1 => exact Kd.C_up (Kd.C_below HR0_3.out HB.out)); (case side2 => exact HC0_3.out); rintro e w14 ⟨rfl, hb⟩; refine ⟨_, rfl, ?_⟩; have n0_ := Am (blk_below (blk_up BKBD.out) hb); have n1_ := Am (below_step belS hb); clear BKBD HB; revert n0_ n1_; intro BKBD HB; (try clear hb); obtain ⟨hcz15_0, hcz15_1, hcz15_2, hcz15_3, hfz15_0, hfz15_1, hfz15_2, hfz15_3⟩ := blk4 BKBD.out) | ((with_reducible refine gate_callee (f := 39) rfl ?_); refine goesL_ (some 18) rfl rfl Try.func39 (by kernel_rfl) rfl #[.agg #[.int .i64 a0_0, .int .i64 a0_1, .int .i64 a0_2, .slice A0_3 l0_3.length c0_3]] rfl argS ?_; (with_reducible refine (laws_toBoard.calls k a0_0 a0_1 a0_2 _ _ l0_3 tBF tBG tBH tBI _ ?side1 ?side2 A7.out).mono ?_); (case side1 => exact Kd.C_up (Kd.C_below HR0_3.out HB.out)); (case side2 => exact HC0_3.out); rintro e w16 ⟨vBJ, rfl, ho0, hb⟩; refine ⟨_, rfl, ?_⟩; have n0_ := Am (Kd.R_lower ho0 (below_size belS)); have n1_ := Am (blk_below (blk_up BKBD.out) hb); have n2_ := Am (below_step belS hb); clear BKBD HB; revert n0_ n1_ n2_; intro HOBK BKBD HB; (try clear hb); (try clear ho0); obtain ⟨Ao17, co17, eo17⟩ := Kd.R_slice HOBK.out; subst eo17) | ((with_reducible refine gate_callee (f := 38) rfl ?_); refine goesL_ (some 19) rfl rfl Try.func38 (by kernel_rfl) rfl #[.agg #[.int .i64 tBF, .int .i64 tBG, .int .i64 tBH, .slice Ao17 tBI.length co17]] rfl argS ?_; (with_reducible refine (spec_BestLadder.calls k tBF tBG tBH _ _ tBI tBL tBM tBN tBO _ ?side1 ?side2 A8.out).mono ?_); (case side1 => exact Kd.C_up (Kd.R_reads' HOBK.out).2.2); (case side2 => exact (Kd.R_reads' HOBK.out).2.1); rintro e w18 ⟨rfl, hb⟩; refine ⟨_, rfl, ?_⟩; have n0_ := Am (Kd.R_below (Kd.R_up HOBK.out) hb); have n1_ := Am (blk_below (blk_up BKBD.out) hb); have n2_ := Am (below_step belS hb); clear HOBK BKBD HB; revert n0_ n1_ n2_; intro HOBK BKBD HB; (try clear hb)) | ((with_reducible refine gate_dst (N := 4) rfl ?_); refine box_event (by rfl) (N := 4) (by rfl) (cs := #[.int .i64 0, .int .i64 0]) (t := 27) hrS ?_; intro gbBP hg w19 hbox hb; have n0_ := Am (Kd.R_below (Kd.R_elderB (Kd.R_up HOBK.out) gbBP (Nat.le_of_eq hg.symm)) hb); have n1_ := Am (blk_below (blk_up BKBD.out) hb); have n2_ := Am (below_step belS hb); have n3_ := Am (hbox); have n4_ := Am (geS hg : w.heap.size ≤ gbBP); have n5_ := n4_; have n6_ := Am ((by rw [hg]; exact Nat.ne_of_lt (blk_lt (blk_up BKBD.out)) : gbBD ≠ gbBP)); have n7_ := Am ((by rw [hg]; exact Nat.ne_of_gt (blk_lt (blk_up BKBD.out)) : gbBP ≠ gbBD)); clear HOBK BKBD HB; revert n0_ n1_ n2_ n3_ n4_ n5_ n6_ n7_; intro HOBK BKBD HB BKBP GWBP GEBP NBBD_BP NBBP_BD; clear hb hbox hg; have hnb20 := NBBP_BD.out; have hnc20 := NBBD_BP.out; obtain ⟨hcz21_0, hcz21_1, hfz21_0, hfz21_1⟩ := blk2 BKBP.out; obtain ⟨hcz22_0, hcz22_1, hcz22_2, hcz22_3, hfz22_0, hfz22_1, hfz22_2, hfz22_3⟩ := blk4 BKBD.out) | ((with_reducible refine gate_callee (f := 39) rfl ?_); refine goesL_ (some 24) rfl rfl Try.func39 (by kernel_rfl) rfl #[.agg #[.int .i64 a0_0, .int .i64 a0_1, .int .i64 a0_2, .slice A0_3 l0_3.length c0_3]] rfl argS ?_; (with_reducible refine (laws_toBoard.calls k a0_0 a0_1 a0_2 _ _ l0_3 tBQ tBR tBS tBT _ ?side1 ?side2 A9.out).mono ?_); (case side1 => exact Kd.C_below HR0_3.out belS); (case side2 => exact HC0_3.out); rintro e w23 ⟨vBU, rfl, ho0, hb⟩; refine ⟨_, rfl, ?_⟩; have n0_ := Am (Kd.R_elder' (by (with_reducible repeat (first | apply Kd.R_alloc | apply Kd.R_drewN | apply Kd.R_drew)); exact (Kd.R_mono (Kd.R_far (p := ⟨gbBP, 1, none⟩) (Kd.R_far (p := ⟨gbBP, 0, none⟩) (Kd.R_mono HOBK.out (fun k_ hk => (⟨hk, hk.2⟩ : _ ∧ k_ ≠ gbBP))) (fun _ hk => hk.2) (.int .i64 tBL)) (fun _ hk => hk.2) (.int .i64 tBM)) (fun _ h_ => h_.1))) (Kd.R_base ho0) hb); have n1_ := Am (Kd.R_lower (Kd.R_newB (Kd.R_new' ho0 (Kd.R_lt (by (with_reducible repeat (first | apply Kd.R_alloc | apply Kd.R_drewN | apply Kd.R_drew)); exact (Kd.R_mono (Kd.R_far (p := ⟨gbBP, 1, none⟩) (Kd.R_far (p := ⟨gbBP, 0, none⟩) (Kd.R_mono HOBK.out (fun k_ hk => (⟨hk, hk.2⟩ : _ ∧ k_ ≠ gbBP))) (fun _ hk => hk.2) (.int .i64 tBL)) (fun _ hk => hk.2) (.int .i64 tBM)) (fun _ h_ => h_.1))))) (g := gbBP) (o := .cells #[.int .i64 tBL, .int .i64 tBM] 27 (0, 0)) (by (with_reducible repeat (first | refine blk_drewN ?_ _ | refine blk_drew ?_ | refine blk_alloc ?_ _)); refine blk_put (cs := #[.int .i64 tBL, .int .i64 0]) ?_ 1 _ rfl; refine blk_putU (cs := #[.int .i64 0, .int .i64 0]) ?_ 0 _ rfl; exact BKBP.out)) (below_size belS)); have n2_ := Am (blk_below (g := gbBD) (o := .cells #[.int .i64 a0_0, .int .i64 a0_1, .int .i64 a0_2, .slice A0_3 l0_3.length c0_3] 24 (0, 0)) (by (with_reducible repeat (first | refine blk_drewN ?_ _ | refine blk_drew ?_ | refine blk_alloc ?_ _)); refine blk_farU ?_ NBBD_BP.out _; refine blk_farU ?_ NBBD_BP.out _; exact BKBD.out) hb); have n3_ := Am (blk_below (g := gbBP) (o := .cells #[.int .i64 tBL, .int .i64 tBM] 27 (0, 0)) (by (with_reducible repeat (first | refine blk_drewN ?_ _ | refine blk_drew ?_ | refine blk_alloc ?_ _)); refine blk_put (cs := #[.int .i64 tBL, .int .i64 0]) ?_ 1 _ rfl; refine blk_putU (cs := #[.int .i64 0, .int .i64 0]) ?_ 0 _ rfl; exact BKBP.out) hb); have n4_ := Am (below_step belS hb); clear HOBK BKBD BKBP HB; revert n0_ n1_ n2_ n3_ n4_; intro HOBK HOBV BKBD BKBP HB; (try clear hb); (try clear hk); (try clear ho0)) | ((with_reducible refine gate_dst (N := 7) rfl ?_); refine box_event (by rfl) (N := 7) (by rfl) (cs := #[.int .i64 0, .int .i64 0, .int .i64 0, .slice none 0 0]) (t := 32) hrS ?_; intro gbBW hg w24 hbox hb; have n0_ := Am (Kd.R_below (Kd.R_up HOBK.out) hb); have n1_ := Am (Kd.R_below (Kd.R_up HOBV.out) hb); have n2_ := Am (blk_below (blk_up BKBD.out) hb); have n3_ := Am (blk_below (blk_up BKBP.out) hb); have n4_ := Am (below_step belS hb); have n5_ := Am (hbox); have n6_ := Am (geS hg : w.heap.size ≤ gbBW); have n7_ := n6_; have n8_ := Am ((by rw [hg]; exact Nat.ne_of_lt (blk_lt (blk_up BKBD.out)) : gbBD ≠ gbBW)); have n9_ := Am ((by rw [hg]; exact Nat.ne_of_gt (blk_lt (blk_up BKBD.out)) : gbBW ≠ gbBD)); have n10_ := Am ((by rw [hg]; exact Nat.ne_of_lt (blk_lt (blk_up BKBP.out)) : gbBP ≠ gbBW)); have n11_ := Am ((by rw [hg]; exact Nat.ne_of_gt (blk_lt (blk_up BKBP.out)) : gbBW ≠ gbBP)); clear HOBK HOBV BKBD BKBP HB; revert n0_ n1_ n2_ n3_ n4_ n5_ n6_ n7_ n8_ n9_ n10_ n11_; intro HOBK HOBV BKBD BKBP HB BKBW GWBW GEBW NBBD_BW NBBW_BD NBBP_BW NBBW_BP; clear hb hbox hg; have hnb25 := NBBW_BD.out; have hnc25 := NBBD_BW.out; have hnb26 := NBBW_BP.out; have hnc26 := NBBP_BW.out; obtain ⟨hcz27_0, hcz27_1, hcz27_2, hcz27_3, hfz27_0, hfz27_1, hfz27_2, hfz27_3⟩ := blk4 BKBW.out; obtain ⟨Ao28, co28, eo28⟩ := Kd.R_slice HOBV.out; subst eo28) | ((with_reducible refine gate_callee (f := 40) rfl ?_); refine goesL_ (some 27) rfl rfl Try.func40 (by kernel_rfl) rfl #[.agg #[.int .i64 tBQ, .int .i64 tBR, .int .i64 tBS, .slice Ao28 tBT.length co28]] rfl argS ?_; (with_reducible refine (impl_BestLadder.calls k tBQ tBR tBS _ _ tBT tBX tBY tBZ tC0 _ ?side1 ?side2 A10.out).mono ?_); (case side1 => refine (Kd.R_reads' (e := 27) (base := w.heap.size) (ok := fun k_ => ((True ∧ some k_ ≠ (.slice Ao17 tBI.length co17 : Value).ownBlock) ∧ k_ ≠ gbBP)) (n := tBT.length) (c := co28) ?_).2.2; exact (by (with_reducible repeat (first | apply Kd.R_alloc | apply Kd.R_drewN | apply Kd.R_drew)); exact (Kd.R_mono (Kd.R_far (p := ⟨gbBW, 3, none⟩) (Kd.R_far (p := ⟨gbBW, 2, none⟩) (Kd.R_far (p := ⟨gbBW, 1, none⟩) (Kd.R_far (p := ⟨gbBW, 0, none⟩) (Kd.R_types HOBV.out BKBW.out (by decide)) (fun _ hk => hk.2) (.int .i64 tBQ)) (fun _ hk => hk.2) (.int .i64 tBR)) (fun _ hk => hk.2) (.int .i64 tBS)) (fun _ hk => hk.2) (.slice Ao28 tBT.length co28)) (fun _ h_ => h_.1)))); (case side2 => exact (Kd.R_reads' HOBV.out).2.1); rintro e w29 ⟨rfl, hb⟩; refine ⟨_, rfl, ?_⟩; have n0_ := Am (Kd.R_below (by (with_reducible repeat (first | apply Kd.R_alloc | apply Kd.R_drewN | apply Kd.R_drew)); exact (Kd.R_mono (Kd.R_far (p := ⟨gbBW, 3, none⟩) (Kd.R_far (p := ⟨gbBW, 2, none⟩) (Kd.R_far (p := ⟨gbBW, 1, none⟩) (Kd.R_far (p := ⟨gbBW, 0, none⟩) (Kd.R_types HOBK.out BKBW.out (by decide)) (fun _ hk => hk.2) (.int .i64 tBQ)) (fun _ hk => hk.2) (.int .i64 tBR)) (fun _ hk => hk.2) (.int .i64 tBS)) (fun _ hk => hk.2) (.slice Ao28 tBT.length co28)) (fun _ h_ => h_.1))) hb); have n1_ := Am (Kd.R_below (by (with_reducible repeat (first | apply Kd.R_alloc | apply Kd.R_drewN | apply Kd.R_drew)); exact (Kd.R_mono (Kd.R_far (p := ⟨gbBW, 3, none⟩) (Kd.R_far (p := ⟨gbBW, 2, none⟩) (Kd.R_far (p := ⟨gbBW, 1, none⟩) (Kd.R_far (p := ⟨gbBW, 0, none⟩) (Kd.R_types HOBV.out BKBW.out (by decide)) (fun _ hk => hk.2) (.int .i64 tBQ)) (fun _ hk => hk.2) (.int .i64 tBR)) (fun _ hk => hk.2) (.int .i64 tBS)) (fun _ hk => hk.2) (.slice Ao28 tBT.length co28)) (fun _ h_ => h_.1))) hb); have n2_ := Am (blk_below (g := gbBD) (o := .cells #[.int .i64 a0_0, .int .i64 a0_1, .int .i64 a0_2, .slice A0_3 l0_3.length c0_3] 24 (0, 0)) (by (with_reducible repeat (first | refine blk_drewN ?_ _ | refine blk_drew ?_ | refine blk_alloc ?_ _)); refine blk_farU ?_ NBBD_BW.out _; refine blk_farU ?_ NBBD_BW.out _; refine blk_farU ?_ NBBD_BW.out _; refine blk_farU ?_ NBBD_BW.out _; exact BKBD.out) hb); have n3_ := Am (blk_below (g := gbBP) (o := .cells #[.int .i64 tBL, .int .i64 tBM] 27 (0, 0)) (by (with_reducible repeat (first | refine blk_drewN ?_ _ | refine blk_drew ?_ | refine blk_alloc ?_ _)); refine blk_farU ?_ NBBP_BW.out _; refine blk_farU ?_ NBBP_BW.out _; refine blk_farU ?_ NBBP_BW.out _; refine blk_farU ?_ NBBP_BW.out _; exact BKBP.out) hb); have n4_ := Am (blk_below (g := gbBW) (o := .cells #[.int .i64 tBQ, .int .i64 tBR, .int .i64 tBS, .slice Ao28 tBT.length co28] 32 (0, 0)) (by (with_reducible repeat (first | refine blk_drewN ?_ _ | refine blk_drew ?_ | refine blk_alloc ?_ _)); refine blk_put (cs := #[.int .i64 tBQ, .int .i64 tBR, .int .i64 tBS, .slice none 0 0]) ?_ 3 _ rfl; refine blk_put (cs := #[.int .i64 tBQ, .int .i64 tBR, .int .i64 0, .slice none 0 0]) ?_ 2 _ rfl; refine blk_put (cs := #[.int .i64 tBQ, .int .i64 0, .int .i64 0, .slice none 0 0]) ?_ 1 _ rfl; refine blk_putU (cs := #[.int .i64 0, .int .i64 0, .int .i64 0, .slice none 0 0]) ?_ 0 _ rfl; exact BKBW.out) hb); have n5_ := Am (below_step belS hb); clear HOBK HOBV BKBD BKBP BKBW HB; revert n0_ n1_ n2_ n3_ n4_ n5_; intro HOBK HOBV BKBD BKBP BKBW HB; (try clear hb); (try clear hk)) | ((with_reducible refine gate_dst (N := 8) rfl ?_); refine box_event (by rfl) (N := 8) (by rfl) (cs := #[.int .i64 0, .int .i64 0]) (t := 27) hrS ?_; intro gbC1 hg w30 hbox hb; have n0_ := Am (Kd.R_below (Kd.R_elderB (Kd.R_up HOBK.out) gbC1 (Nat.le_of_eq hg.symm)) hb); have n1_ := Am (Kd.R_below (Kd.R_elderB (Kd.R_up HOBV.out) gbC1 (Nat.le_of_eq hg.symm)) hb); have n2_ := Am (blk_below (blk_up BKBD.out) hb); have n3_ := Am (blk_below (blk_up BKBP.out) hb); have n4_ := Am (blk_below (blk_up BKBW.out) hb); have n5_ := Am (below_step belS hb); have n6_ := Am (hbox); have n7_ := Am (geS hg : w.heap.size ≤ gbC1); have n8_ := n7_; have n9_ := Am ((by rw [hg]; exact Nat.ne_of_lt (blk_lt (blk_up BKBD.out)) : gbBD ≠ gbC1)); have n10_ := Am ((by rw [hg]; exact Nat.ne_of_gt (blk_lt (blk_up BKBD.out)) : gbC1 ≠ gbBD)); have n11_ := Am ((by rw [hg]; exact Nat.ne_of_lt (blk_lt (blk_up BKBP.out)) : gbBP ≠ gbC1)); have n12_ := Am ((by rw [hg]; exact Nat.ne_of_gt (blk_lt (blk_up BKBP.out)) : gbC1 ≠ gbBP)); have n13_ := Am ((by rw [hg]; exact Nat.ne_of_lt (blk_lt (blk_up BKBW.out)) : gbBW ≠ gbC1)); have n14_ := Am ((by rw [hg]; exact Nat.ne_of_gt (blk_lt (blk_up BKBW.out)) : gbC1 ≠ gbBW)); clear HOBK HOBV BKBD BKBP BKBW HB; revert n0_ n1_ n2_ n3_ n4_ n5_ n6_ n7_ n8_ n9_ n10_ n11_ n12_ n13_ n14_; intro HOBK HOBV BKBD BKBP BKBW HB BKC1 GWC1 GEC1 NBBD_C1 NBC1_BD NBBP_C1 NBC1_BP NBBW_C1 NBC1_BW; clear hb hbox hg; have hnb31 := NBC1_BD.out; have hnc31 := NBBD_C1.out; have hnb32 := NBC1_BP.out; have hnc32 := NBBP_C1.out; have hnb33 := NBC1_BW.out; have hnc33 := NBBW_C1.out; obtain ⟨hcz34_0, hcz34_1, hfz34_0, hfz34_1⟩ := blk2 BKC1.out))
  (try simp only [Act.put, sA_, sB_, sC_])
  go_cut [44] (fun v44 wc => ∃ (kq : Nat) (x44_10 : Bool), v44 = .bool x44_10 ∧ Aside0 (laws_FnExactBestLadder.j0 kq x44_10 a0_0 a0_1 a0_2 l0_3 tBQ tBR tBS tBT = some r) ∧ Aside0 (kq ≤ k) ∧ Aside0 (Kd.R k27 27 wc w.heap.size (fun k_ => k_ ≠ gbBP ∧ k_ ≠ gbC1) (.slice Ao28 tBT.length co28) tBT) ∧ Aside0 (wc.heap[gbBD]? = some (.cells #[.int .i64 a0_0, .int .i64 a0_1, .int .i64 a0_2, (.slice A0_3 l0_3.length c0_3)] 24 (0, 0))) ∧ Aside0 (wc.heap[gbBP]? = some (.cells #[.int .i64 tBL, .int .i64 tBM] 27 (0, 0))) ∧ Aside0 (wc.heap[gbBW]? = some (.cells #[.int .i64 tBQ, .int .i64 tBR, .int .i64 tBS, (.slice Ao28 tBT.length co28)] 32 (0, 0))) ∧ Aside0 (wc.heap[gbC1]? = some (.cells #[.int .i64 tBX, .int .i64 tBY] 27 (0, 0))) ∧ Aside0 (Below w.heap.size w wc))
  case first =>
   have H := HC11.out
   clear HC11
   replace H := Option.bind_eq_some_iff.mp H
   obtain ⟨tC2, A350, H⟩ := H
   replace H : (if tC2 = true then (if tBZ = tBN then (laws_FnExactBestLadder.j0 k (tC0 != tBO) a0_0 a0_1 a0_2 l0_3 tBQ tBR tBS tBT) else (laws_FnExactBestLadder.j0 k true a0_0 a0_1 a0_2 l0_3 tBQ tBR tBS tBT)) else (laws_FnExactBestLadder.j0 k true a0_0 a0_1 a0_2 l0_3 tBQ tBR tBS tBT)) = some r := H
   have A35 := Am A350
   clear A350
   by_cases c36 : tC2 = true
   ·subst c36
    have H1 : (if tBZ = tBN then (laws_FnExactBestLadder.j0 k (tC0 != tBO) a0_0 a0_1 a0_2 l0_3 tBQ tBR tBS tBT) else (laws_FnExactBestLadder.j0 k true a0_0 a0_1 a0_2 l0_3 tBQ tBR tBS tBT)) = some r := by rw [if_pos rfl] at H; exact H
    clear H
    have H := H1
    clear H1
    by_cases c37 : tBZ = tBN
    ·rw [if_pos c37] at H
     have c37b0 : (tBZ == tBN) = true := beq_iff_eq.mpr c37
     have c37b1 : (tBZ != tBN) = false := bne_eq_false_iff_eq.mpr c37
     clear c37
     (first | rw [c37b0] | (simp only [i64_w, i32_w]; rw [c37b0]) | skip)
     have H' := Am H
     clear H
     have hnb38 := NBC1_BD.out
     have hnc38 := NBBD_C1.out
     have hnb39 := NBC1_BP.out
     have hnc39 := NBBP_C1.out
     have hnb40 := NBC1_BW.out
     have hnc40 := NBBW_C1.out
     obtain ⟨hcz41_0, hcz41_1, hfz41_0, hfz41_1⟩ := blk2 BKC1.out
     have hnb42 := NBBP_BD.out
     have hnc42 := NBBD_BP.out
     have hnb43 := NBBP_BW.out
     have hnc43 := NBBW_BP.out
     obtain ⟨hcz44_0, hcz44_1, hfz44_0, hfz44_1⟩ := blk2 BKBP.out
     go_wp2_with (first | ((with_reducible refine gate_callee (f := 41) rfl ?_); refine goesL_ (some 33) rfl rfl Try.func41 (by kernel_rfl) rfl #[.agg #[.int .i64 tBX, .int .i64 tBY], .agg #[.int .i64 tBL, .int .i64 tBM]] rfl argS ?_; (with_reducible refine (laws_eqJump.calls tBX tBY tBL tBM true _ A35.out).mono ?_); rintro e w45 ⟨rfl, hb⟩; refine ⟨_, rfl, ?_⟩; have n0_ := Am (Kd.R_below (by (with_reducible repeat (first | apply Kd.R_alloc | apply Kd.R_drewN | apply Kd.R_drew)); exact (Kd.R_mono (Kd.R_far (p := ⟨gbC1, 1, none⟩) (Kd.R_far (p := ⟨gbC1, 0, none⟩) (Kd.R_mono HOBK.out (fun k_ hk => (⟨hk, hk.2⟩ : _ ∧ k_ ≠ gbC1))) (fun _ hk => hk.2) (.int .i64 tBX)) (fun _ hk => hk.2) (.int .i64 tBY)) (fun _ h_ => h_.1))) hb); have n1_ := Am (Kd.R_below (by (with_reducible repeat (first | apply Kd.R_alloc | apply Kd.R_drewN | apply Kd.R_drew)); exact (Kd.R_mono (Kd.R_far (p := ⟨gbC1, 1, none⟩) (Kd.R_far (p := ⟨gbC1, 0, none⟩) (Kd.R_mono HOBV.out (fun k_ hk => (⟨hk, hk.2⟩ : _ ∧ k_ ≠ gbC1))) (fun _ hk => hk.2) (.int .i64 tBX)) (fun _ hk => hk.2) (.int .i64 tBY)) (fun _ h_ => h_.1))) hb); have n2_ := Am (blk_below (g := gbBD) (o := .cells #[.int .i64 a0_0, .int .i64 a0_1, .int .i64 a0_2, .slice A0_3 l0_3.length c0_3] 24 (0, 0)) (by (with_reducible repeat (first | refine blk_drewN ?_ _ | refine blk_drew ?_ | refine blk_alloc ?_ _)); refine blk_farU ?_ NBBD_C1.out _; refine blk_farU ?_ NBBD_C1.out _; exact BKBD.out) hb); have n3_ := Am (blk_below (g := gbBP) (o := .cells #[.int .i64 tBL, .int .i64 tBM] 27 (0, 0)) (by (with_reducible repeat (first | refine blk_drewN ?_ _ | refine blk_drew ?_ | refine blk_alloc ?_ _)); refine blk_farU ?_ NBBP_C1.out _; refine blk_farU ?_ NBBP_C1.out _; exact BKBP.out) hb); have n4_ := Am (blk_below (g := gbBW) (o := .cells #[.int .i64 tBQ, .int .i64 tBR, .int .i64 tBS, .slice Ao28 tBT.length co28] 32 (0, 0)) (by (with_reducible repeat (first | refine blk_drewN ?_ _ | refine blk_drew ?_ | refine blk_alloc ?_ _)); refine blk_farU ?_ NBBW_C1.out _; refine blk_farU ?_ NBBW_C1.out _; exact BKBW.out) hb); have n5_ := Am (blk_below (g := gbC1) (o := .cells #[.int .i64 tBX, .int .i64 tBY] 27 (0, 0)) (by (with_reducible repeat (first | refine blk_drewN ?_ _ | refine blk_drew ?_ | refine blk_alloc ?_ _)); refine blk_put (cs := #[.int .i64 tBX, .int .i64 0]) ?_ 1 _ rfl; refine blk_putU (cs := #[.int .i64 0, .int .i64 0]) ?_ 0 _ rfl; exact BKC1.out) hb); have n6_ := Am (below_step belS hb); clear HOBK HOBV BKBD BKBP BKBW BKC1 HB; revert n0_ n1_ n2_ n3_ n4_ n5_ n6_; intro HOBK HOBV BKBD BKBP BKBW BKC1 HB; (try clear hb); (try clear hk)))
     go_meet
     case rel => exact ⟨_, ((tC0 != tBO)), rfS, H', ⟨by first | omega | exact Nat.le_refl _⟩, ⟨by (with_reducible repeat (first | apply Kd.R_alloc | apply Kd.R_drewN | apply Kd.R_drew)); exact Kd.R_mono HOBV.out (fun _ hk => ⟨hk.1.2, hk.2⟩)⟩, ⟨by first | exact blk_up BKBD.out | exact BKBD.out⟩, ⟨by first | exact blk_up BKBP.out | exact BKBP.out⟩, ⟨by first | exact blk_up BKBW.out | exact BKBW.out⟩, ⟨by first | exact blk_up BKC1.out | exact BKC1.out⟩, ⟨by exact belS⟩⟩
    ·rw [if_neg c37] at H
     have c37b0 : (tBZ == tBN) = false := beq_eq_false_iff_ne.mpr c37
     have c37b1 : (tBZ != tBN) = true := bne_iff_ne.mpr c37
     (first | rw [c37b0] | (simp only [i64_w, i32_w]; rw [c37b0]) | skip)
     have H' := Am H
     clear H
     have hnb46 := NBC1_BD.out
     have hnc46 := NBBD_C1.out
     have hnb47 := NBC1_BP.out
     have hnc47 := NBBP_C1.out
     have hnb48 := NBC1_BW.out
     have hnc48 := NBBW_C1.out
     obtain ⟨hcz49_0, hcz49_1, hfz49_0, hfz49_1⟩ := blk2 BKC1.out
     have hnb50 := NBBP_BD.out
     have hnc50 := NBBD_BP.out
     have hnb51 := NBBP_BW.out
     have hnc51 := NBBW_BP.out
     obtain ⟨hcz52_0, hcz52_1, hfz52_0, hfz52_1⟩ := blk2 BKBP.out
     go_wp2_with (first | ((with_reducible refine gate_callee (f := 41) rfl ?_); refine goesL_ (some 33) rfl rfl Try.func41 (by kernel_rfl) rfl #[.agg #[.int .i64 tBX, .int .i64 tBY], .agg #[.int .i64 tBL, .int .i64 tBM]] rfl argS ?_; (with_reducible refine (laws_eqJump.calls tBX tBY tBL tBM true _ A35.out).mono ?_); rintro e w53 ⟨rfl, hb⟩; refine ⟨_, rfl, ?_⟩; have n0_ := Am (Kd.R_below (by (with_reducible repeat (first | apply Kd.R_alloc | apply Kd.R_drewN | apply Kd.R_drew)); exact (Kd.R_mono (Kd.R_far (p := ⟨gbC1, 1, none⟩) (Kd.R_far (p := ⟨gbC1, 0, none⟩) (Kd.R_mono HOBK.out (fun k_ hk => (⟨hk, hk.2⟩ : _ ∧ k_ ≠ gbC1))) (fun _ hk => hk.2) (.int .i64 tBX)) (fun _ hk => hk.2) (.int .i64 tBY)) (fun _ h_ => h_.1))) hb); have n1_ := Am (Kd.R_below (by (with_reducible repeat (first | apply Kd.R_alloc | apply Kd.R_drewN | apply Kd.R_drew)); exact (Kd.R_mono (Kd.R_far (p := ⟨gbC1, 1, none⟩) (Kd.R_far (p := ⟨gbC1, 0, none⟩) (Kd.R_mono HOBV.out (fun k_ hk => (⟨hk, hk.2⟩ : _ ∧ k_ ≠ gbC1))) (fun _ hk => hk.2) (.int .i64 tBX)) (fun _ hk => hk.2) (.int .i64 tBY)) (fun _ h_ => h_.1))) hb); have n2_ := Am (blk_below (g := gbBD) (o := .cells #[.int .i64 a0_0, .int .i64 a0_1, .int .i64 a0_2, .slice A0_3 l0_3.length c0_3] 24 (0, 0)) (by (with_reducible repeat (first | refine blk_drewN ?_ _ | refine blk_drew ?_ | refine blk_alloc ?_ _)); refine blk_farU ?_ NBBD_C1.out _; refine blk_farU ?_ NBBD_C1.out _; exact BKBD.out) hb); have n3_ := Am (blk_below (g := gbBP) (o := .cells #[.int .i64 tBL, .int .i64 tBM] 27 (0, 0)) (by (with_reducible repeat (first | refine blk_drewN ?_ _ | refine blk_drew ?_ | refine blk_alloc ?_ _)); refine blk_farU ?_ NBBP_C1.out _; refine blk_farU ?_ NBBP_C1.out _; exact BKBP.out) hb); have n4_ := Am (blk_below (g := gbBW) (o := .cells #[.int .i64 tBQ, .int .i64 tBR, .int .i64 tBS, .slice Ao28 tBT.length co28] 32 (0, 0)) (by (with_reducible repeat (first | refine blk_drewN ?_ _ | refine blk_drew ?_ | refine blk_alloc ?_ _)); refine blk_farU ?_ NBBW_C1.out _; refine blk_farU ?_ NBBW_C1.out _; exact BKBW.out) hb); have n5_ := Am (blk_below (g := gbC1) (o := .cells #[.int .i64 tBX, .int .i64 tBY] 27 (0, 0)) (by (with_reducible repeat (first | refine blk_drewN ?_ _ | refine blk_drew ?_ | refine blk_alloc ?_ _)); refine blk_put (cs := #[.int .i64 tBX, .int .i64 0]) ?_ 1 _ rfl; refine blk_putU (cs := #[.int .i64 0, .int .i64 0]) ?_ 0 _ rfl; exact BKC1.out) hb); have n6_ := Am (below_step belS hb); clear HOBK HOBV BKBD BKBP BKBW BKC1 HB; revert n0_ n1_ n2_ n3_ n4_ n5_ n6_; intro HOBK HOBV BKBD BKBP BKBW BKC1 HB; (try clear hb); (try clear hk)))
     go_meet
     case rel => exact ⟨_, (true), rfS, H', ⟨by first | omega | exact Nat.le_refl _⟩, ⟨by (with_reducible repeat (first | apply Kd.R_alloc | apply Kd.R_drewN | apply Kd.R_drew)); exact Kd.R_mono HOBV.out (fun _ hk => ⟨hk.1.2, hk.2⟩)⟩, ⟨by first | exact blk_up BKBD.out | exact BKBD.out⟩, ⟨by first | exact blk_up BKBP.out | exact BKBP.out⟩, ⟨by first | exact blk_up BKBW.out | exact BKBW.out⟩, ⟨by first | exact blk_up BKC1.out | exact BKC1.out⟩, ⟨by exact belS⟩⟩
   ·replace c36 := Bool.eq_false_iff.mpr c36
    subst c36
    have H1 : (laws_FnExactBestLadder.j0 k true a0_0 a0_1 a0_2 l0_3 tBQ tBR tBS tBT) = some r := by rw [if_neg (show ¬ (false = true) by decide)] at H; exact H
    clear H
    have H := H1
    clear H1
    have H' := Am H
    clear H
    have hnb54 := NBC1_BD.out
    have hnc54 := NBBD_C1.out
    have hnb55 := NBC1_BP.out
    have hnc55 := NBBP_C1.out
    have hnb56 := NBC1_BW.out
    have hnc56 := NBBW_C1.out
    obtain ⟨hcz57_0, hcz57_1, hfz57_0, hfz57_1⟩ := blk2 BKC1.out
    have hnb58 := NBBP_BD.out
    have hnc58 := NBBD_BP.out
    have hnb59 := NBBP_BW.out
    have hnc59 := NBBW_BP.out
    obtain ⟨hcz60_0, hcz60_1, hfz60_0, hfz60_1⟩ := blk2 BKBP.out
    go_wp2_with (first | ((with_reducible refine gate_callee (f := 41) rfl ?_); refine goesL_ (some 33) rfl rfl Try.func41 (by kernel_rfl) rfl #[.agg #[.int .i64 tBX, .int .i64 tBY], .agg #[.int .i64 tBL, .int .i64 tBM]] rfl argS ?_; (with_reducible refine (laws_eqJump.calls tBX tBY tBL tBM false _ A35.out).mono ?_); rintro e w61 ⟨rfl, hb⟩; refine ⟨_, rfl, ?_⟩; have n0_ := Am (Kd.R_below (by (with_reducible repeat (first | apply Kd.R_alloc | apply Kd.R_drewN | apply Kd.R_drew)); exact (Kd.R_mono (Kd.R_far (p := ⟨gbC1, 1, none⟩) (Kd.R_far (p := ⟨gbC1, 0, none⟩) (Kd.R_mono HOBK.out (fun k_ hk => (⟨hk, hk.2⟩ : _ ∧ k_ ≠ gbC1))) (fun _ hk => hk.2) (.int .i64 tBX)) (fun _ hk => hk.2) (.int .i64 tBY)) (fun _ h_ => h_.1))) hb); have n1_ := Am (Kd.R_below (by (with_reducible repeat (first | apply Kd.R_alloc | apply Kd.R_drewN | apply Kd.R_drew)); exact (Kd.R_mono (Kd.R_far (p := ⟨gbC1, 1, none⟩) (Kd.R_far (p := ⟨gbC1, 0, none⟩) (Kd.R_mono HOBV.out (fun k_ hk => (⟨hk, hk.2⟩ : _ ∧ k_ ≠ gbC1))) (fun _ hk => hk.2) (.int .i64 tBX)) (fun _ hk => hk.2) (.int .i64 tBY)) (fun _ h_ => h_.1))) hb); have n2_ := Am (blk_below (g := gbBD) (o := .cells #[.int .i64 a0_0, .int .i64 a0_1, .int .i64 a0_2, .slice A0_3 l0_3.length c0_3] 24 (0, 0)) (by (with_reducible repeat (first | refine blk_drewN ?_ _ | refine blk_drew ?_ | refine blk_alloc ?_ _)); refine blk_farU ?_ NBBD_C1.out _; refine blk_farU ?_ NBBD_C1.out _; exact BKBD.out) hb); have n3_ := Am (blk_below (g := gbBP) (o := .cells #[.int .i64 tBL, .int .i64 tBM] 27 (0, 0)) (by (with_reducible repeat (first | refine blk_drewN ?_ _ | refine blk_drew ?_ | refine blk_alloc ?_ _)); refine blk_farU ?_ NBBP_C1.out _; refine blk_farU ?_ NBBP_C1.out _; exact BKBP.out) hb); have n4_ := Am (blk_below (g := gbBW) (o := .cells #[.int .i64 tBQ, .int .i64 tBR, .int .i64 tBS, .slice Ao28 tBT.length co28] 32 (0, 0)) (by (with_reducible repeat (first | refine blk_drewN ?_ _ | refine blk_drew ?_ | refine blk_alloc ?_ _)); refine blk_farU ?_ NBBW_C1.out _; refine blk_farU ?_ NBBW_C1.out _; exact BKBW.out) hb); have n5_ := Am (blk_below (g := gbC1) (o := .cells #[.int .i64 tBX, .int .i64 tBY] 27 (0, 0)) (by (with_reducible repeat (first | refine blk_drewN ?_ _ | refine blk_drew ?_ | refine blk_alloc ?_ _)); refine blk_put (cs := #[.int .i64 tBX, .int .i64 0]) ?_ 1 _ rfl; refine blk_putU (cs := #[.int .i64 0, .int .i64 0]) ?_ 0 _ rfl; exact BKC1.out) hb); have n6_ := Am (below_step belS hb); clear HOBK HOBV BKBD BKBP BKBW BKC1 HB; revert n0_ n1_ n2_ n3_ n4_ n5_ n6_; intro HOBK HOBV BKBD BKBP BKBW BKC1 HB; (try clear hb); (try clear hk)))
    go_meet
    case rel => exact ⟨_, (true), rfS, H', ⟨by first | omega | exact Nat.le_refl _⟩, ⟨by (with_reducible repeat (first | apply Kd.R_alloc | apply Kd.R_drewN | apply Kd.R_drew)); exact Kd.R_mono HOBV.out (fun _ hk => ⟨hk.1.2, hk.2⟩)⟩, ⟨by first | exact blk_up BKBD.out | exact BKBD.out⟩, ⟨by first | exact blk_up BKBP.out | exact BKBP.out⟩, ⟨by first | exact blk_up BKBW.out | exact BKBW.out⟩, ⟨by first | exact blk_up BKC1.out | exact BKC1.out⟩, ⟨by exact belS⟩⟩
  case rest =>
   clear HC11
   try clear c3
   try clear c3b0
   try clear hcz13_0 hcz13_1 hcz13_2 hcz13_3
   try clear hcz15_0 hcz15_1 hcz15_2 hcz15_3
   try clear hcz21_0 hcz21_1
   try clear hcz22_0 hcz22_1 hcz22_2 hcz22_3
   try clear hcz27_0 hcz27_1 hcz27_2 hcz27_3
   try clear hcz34_0 hcz34_1
   try clear hfz13_0 hfz13_1 hfz13_2 hfz13_3
   try clear hfz15_0 hfz15_1 hfz15_2 hfz15_3
   try clear hfz21_0 hfz21_1
   try clear hfz22_0 hfz22_1 hfz22_2 hfz22_3
   try clear hfz27_0 hfz27_1 hfz27_2 hfz27_3
   try clear hfz34_0 hfz34_1
   obtain ⟨kq, x44_10, rfl, HA, HJ10, HO_BX003, BKBD, BKBP, BKBW, BKC1, HB⟩ := hcut
   cases kq with
   | zero => exact absurd HA.out (by simp [laws_FnExactBestLadder.j0])
   | succ kj10 =>
    have H := HA.out
    clear HA
    simp only [laws_FnExactBestLadder.j0] at H
    by_cases c62 : x44_10 = true
    ·subst c62
     have H1 : (some false) = some r := by rw [if_pos rfl] at H; exact H
     clear H
     have H := H1
     clear H1
     obtain rfl := Option.some.inj H
     go_wp2
     go_ret
     exact ⟨rfE, by exact belS⟩
    ·replace c62 := Bool.eq_false_iff.mpr c62
     subst c62
     have H1 : ((laws_toBoard.f kj10 a0_0 a0_1 a0_2 l0_3).bind fun btC3 => ((laws_eqBoard.f kj10 tBQ tBR tBS tBT btC3.1 btC3.2.1 btC3.2.2.1 btC3.2.2.2).bind fun tC9 => (if tC9 = true then (some true) else (some false)))) = some r := by rw [if_neg (show ¬ (false = true) by decide)] at H; exact H
     clear H
     have H := H1
     clear H1
     replace H := Option.bind_eq_some_iff.mp H
     obtain ⟨⟨tC3, tC4, tC5, tC6⟩, A630, H⟩ := H
     replace H : ((laws_eqBoard.f kj10 tBQ tBR tBS tBT tC3 tC4 tC5 tC6).bind fun tC9 => (if tC9 = true then (some true) else (some false))) = some r := H
     have A63 := Am A630
     clear A630
     replace H := Option.bind_eq_some_iff.mp H
     obtain ⟨tC9, A640, H⟩ := H
     replace H : (if tC9 = true then (some true) else (some false)) = some r := H
     have A64 := Am A640
     clear A640
     by_cases c65 : tC9 = true
     ·subst c65
      have H1 : (some true) = some r := by rw [if_pos rfl] at H; exact H
      clear H
      have H := H1
      clear H1
      obtain rfl := Option.some.inj H
      try go_wp2
      have n0_ := Am (Kd.R_drew HO_BX003.out)
      have n1_ := Am (blk_drew BKBD.out)
      have n2_ := Am (blk_drew BKBP.out)
      have n3_ := Am (blk_drew BKBW.out)
      have n4_ := Am (blk_drew BKC1.out)
      have n5_ := Am (below_drew1 HB.out)
      clear HO_BX003
      clear BKBD
      clear BKBP
      clear BKBW
      clear BKC1
      clear HB
      have HO_BX003 := n0_
      have BKBD := n1_
      have BKBP := n2_
      have BKBW := n3_
      have BKC1 := n4_
      have HB := n5_
      clear n0_ n1_ n2_ n3_ n4_ n5_
      refine start_ (n := 5) (S := fun w' => w'.cell? ⟨gbBW, 0, none⟩ = some (.int .i64 tBQ) ∧ w'.cell? ⟨gbBW, 1, none⟩ = some (.int .i64 tBR) ∧ w'.cell? ⟨gbBW, 2, none⟩ = some (.int .i64 tBS) ∧ w'.cell? ⟨gbBW, 3, none⟩ = some (.slice Ao28 tBT.length co28) ∧ w'.cell? ⟨gbBD, 0, none⟩ = some (.int .i64 a0_0) ∧ w'.cell? ⟨gbBD, 1, none⟩ = some (.int .i64 a0_1) ∧ w'.cell? ⟨gbBD, 2, none⟩ = some (.int .i64 a0_2) ∧ w'.cell? ⟨gbBD, 3, none⟩ = some (.slice A0_3 l0_3.length c0_3)) (ds := []) #[false, false, false, false, false] (by kernel_rfl) rfl rfl ⟨(blk_cell BKBW.out 0).trans rfl, (blk_cell BKBW.out 1).trans rfl, (blk_cell BKBW.out 2).trans rfl, (blk_cell BKBW.out 3).trans rfl, (blk_cell BKBD.out 0).trans rfl, (blk_cell BKBD.out 1).trans rfl, (blk_cell BKBD.out 2).trans rfl, (blk_cell BKBD.out 3).trans rfl⟩ (fun hHeld => ?_)
      generalize wc.drew = w66 at HO_BX003 BKBD BKBP BKBW BKC1 HB hHeld ⊢
      refine take_ (i := 0) (N := some 45) (v := ?_) (a' := ?_) #[true, false, false, false, false] rfl rfl (by kernel_rfl) (fun _ _ _ h => h) (Or.inl ⟨by rfl, ?_⟩) hHeld ?_ ?_
      rotate_left
      ·rintro w' ⟨s0, s1, s2, s3, s4, s5, s6, s7⟩
       go_simp
       with_reducible rfl
      rotate_left
      ·simp only [Act.put, sA_, sB_, sC_, i64_w, i32_w]
       rfl
      refine take_ (i := 1) (N := some 46) (v := ?_) (a' := ?_) #[true, true, false, false, false] rfl rfl (by kernel_rfl) (fun _ _ _ h => h) (Or.inl ⟨by rfl, ?_⟩) hHeld ?_ ?_
      rotate_left
      ·rintro w' ⟨s0, s1, s2, s3, s4, s5, s6, s7⟩
       go_simp
       with_reducible rfl
      rotate_left
      ·simp only [Act.put, sA_, sB_, sC_, i64_w, i32_w]
       rfl
      refine one_ (i := 2) (N := some 47) #[true, true, true, false, false] rfl rfl (by kernel_rfl) (by decide) (fun K hK => ?_)
      refine goes_ Try.func39 (by kernel_rfl) rfl #[.agg #[.int .i64 a0_0, .int .i64 a0_1, .int .i64 a0_2, .slice A0_3 l0_3.length c0_3]] (by rfl) rfl rfl argS ?_
      with_reducible refine (laws_toBoard.calls kj10 a0_0 a0_1 a0_2 _ _ l0_3 tC3 tC4 tC5 tC6 _ ?side1 ?side2 A63.out).mono ?_
      (case side1 => exact Kd.C_up (Kd.C_below HR0_3.out HB.out))
      (case side2 => exact HC0_3.out)
      rintro e w67 ⟨vC7, rfl, ho0, hb⟩
      refine ⟨_, rfl, ?_⟩
      have n0_ := Am (Kd.R_elder' (Kd.R_up HO_BX003.out) (Kd.R_base ho0) hb)
      have n1_ := Am (Kd.R_lower (Kd.R_newB (Kd.R_newB (Kd.R_new' ho0 (Kd.R_lt (Kd.R_up HO_BX003.out))) (g := gbBP) (o := .cells #[.int .i64 tBL, .int .i64 tBM] 27 (0, 0)) (blk_up BKBP.out)) (g := gbC1) (o := .cells #[.int .i64 tBX, .int .i64 tBY] 27 (0, 0)) (blk_up BKC1.out)) (below_size belS))
      have n2_ := Am (blk_below (blk_up BKBD.out) hb)
      have n3_ := Am (blk_below (blk_up BKBP.out) hb)
      have n4_ := Am (blk_below (blk_up BKBW.out) hb)
      have n5_ := Am (blk_below (blk_up BKC1.out) hb)
      have n6_ := Am (below_step belS hb)
      clear HO_BX003
      clear BKBD
      clear BKBP
      clear BKBW
      clear BKC1
      clear HB
      have HO_BX003 := n0_
      have HOC8 := n1_
      have BKBD := n2_
      have BKBP := n3_
      have BKBW := n4_
      have BKC1 := n5_
      have HB := n6_
      clear n0_ n1_ n2_ n3_ n4_ n5_ n6_
      (try clear hb)
      (try clear hb2)
      (try clear hk)
      (try clear hi)
      (try clear ho0)
      obtain ⟨Ao68, co68, eo68⟩ := Kd.R_slice HOC8.out
      (first | subst eo68 | (injection eo68 with f1_ f2_ f3_; have f4_ := f1_.symm; have f5_ := f3_.symm; clear f1_ f2_ f3_; subst f4_; subst f5_))
      refine hK.out _ _ ⟨(blk_cell BKBW.out 0).trans rfl, (blk_cell BKBW.out 1).trans rfl, (blk_cell BKBW.out 2).trans rfl, (blk_cell BKBW.out 3).trans rfl, (blk_cell BKBD.out 0).trans rfl, (blk_cell BKBD.out 1).trans rfl, (blk_cell BKBD.out 2).trans rfl, (blk_cell BKBD.out 3).trans rfl⟩ (fun hHeld => ?_)
      clear hK K
      refine norm_ (a' := ?_) ?_ ?_
      rotate_left
      ·show Act.put _ (some 47) _ = _
       simp only [Act.put, sA_, sB_, sC_, i64_w, i32_w]
       rfl
      refine one_ (i := 3) (N := some 48) #[true, true, true, true, false] rfl rfl (by kernel_rfl) (by decide) (fun K hK => ?_)
      refine goes_ Try.func42 (by kernel_rfl) rfl #[.agg #[.int .i64 tBQ, .int .i64 tBR, .int .i64 tBS, .slice Ao28 tBT.length co28], .agg #[.int .i64 tC3, .int .i64 tC4, .int .i64 tC5, .slice Ao68 tC6.length co68]] (by rfl) rfl rfl argS ?_
      with_reducible refine (laws_eqBoard.calls kj10 tBQ tBR tBS _ _ tBT tC3 tC4 tC5 _ _ tC6 true _ ?side1 ?side2 ?side3 ?side4 A64.out).mono ?_
      (case side1 => exact Kd.C_up (Kd.R_reads' HO_BX003.out).2.2)
      (case side2 => exact (Kd.R_reads' HO_BX003.out).2.1)
      (case side3 => exact Kd.C_up (Kd.R_reads' HOC8.out).2.2)
      (case side4 => exact (Kd.R_reads' HOC8.out).2.1)
      rintro e w69 ⟨rfl, hb⟩
      refine ⟨_, rfl, ?_⟩
      have n0_ := Am (Kd.R_below (Kd.R_up HO_BX003.out) hb)
      have n1_ := Am (Kd.R_below (Kd.R_up HOC8.out) hb)
      have n2_ := Am (blk_below (blk_up BKBD.out) hb)
      have n3_ := Am (blk_below (blk_up BKBP.out) hb)
      have n4_ := Am (blk_below (blk_up BKBW.out) hb)
      have n5_ := Am (blk_below (blk_up BKC1.out) hb)
      have n6_ := Am (below_step belS hb)
      clear HO_BX003
      clear HOC8
      clear BKBD
      clear BKBP
      clear BKBW
      clear BKC1
      clear HB
      have HO_BX003 := n0_
      have HOC8 := n1_
      have BKBD := n2_
      have BKBP := n3_
      have BKBW := n4_
      have BKC1 := n5_
      have HB := n6_
      clear n0_ n1_ n2_ n3_ n4_ n5_ n6_
      (try clear hb)
      (try clear hb2)
      (try clear hk)
      (try clear hi)
      refine hK.out _ _ ⟨(blk_cell BKBW.out 0).trans rfl, (blk_cell BKBW.out 1).trans rfl, (blk_cell BKBW.out 2).trans rfl, (blk_cell BKBW.out 3).trans rfl, (blk_cell BKBD.out 0).trans rfl, (blk_cell BKBD.out 1).trans rfl, (blk_cell BKBD.out 2).trans rfl, (blk_cell BKBD.out 3).trans rfl⟩ (fun hHeld => ?_)
      clear hK K
      refine norm_ (a' := ?_) ?_ ?_
      rotate_left
      ·show Act.put _ (some 48) _ = _
       simp only [Act.put, sA_, sB_, sC_, i64_w, i32_w]
       rfl
      refine pure_ (i := 4) (N := some 49) (v := ?_) (a' := ?_) #[true, true, true, true, true] rfl rfl (by kernel_rfl) (fun _ _ _ h => h) (Or.inl ⟨by rfl, ?_⟩) ?_ ?_
      rotate_left
      ·intro w'
       go_simp
       with_reducible rfl
      rotate_left
      ·simp only [Act.put, sA_, sB_, sC_, i64_w, i32_w]
       rfl
      refine done_ (by kernel_rfl) ?_
      try go_wp2
      go_ret
      exact ⟨rfE, by exact belS⟩
     ·replace c65 := Bool.eq_false_iff.mpr c65
      subst c65
      have H1 : (some false) = some r := by rw [if_neg (show ¬ (false = true) by decide)] at H; exact H
      clear H
      have H := H1
      clear H1
      obtain rfl := Option.some.inj H
      try go_wp2
      have n0_ := Am (Kd.R_drew HO_BX003.out)
      have n1_ := Am (blk_drew BKBD.out)
      have n2_ := Am (blk_drew BKBP.out)
      have n3_ := Am (blk_drew BKBW.out)
      have n4_ := Am (blk_drew BKC1.out)
      have n5_ := Am (below_drew1 HB.out)
      clear HO_BX003
      clear BKBD
      clear BKBP
      clear BKBW
      clear BKC1
      clear HB
      have HO_BX003 := n0_
      have BKBD := n1_
      have BKBP := n2_
      have BKBW := n3_
      have BKC1 := n4_
      have HB := n5_
      clear n0_ n1_ n2_ n3_ n4_ n5_
      refine start_ (n := 5) (S := fun w' => w'.cell? ⟨gbBW, 0, none⟩ = some (.int .i64 tBQ) ∧ w'.cell? ⟨gbBW, 1, none⟩ = some (.int .i64 tBR) ∧ w'.cell? ⟨gbBW, 2, none⟩ = some (.int .i64 tBS) ∧ w'.cell? ⟨gbBW, 3, none⟩ = some (.slice Ao28 tBT.length co28) ∧ w'.cell? ⟨gbBD, 0, none⟩ = some (.int .i64 a0_0) ∧ w'.cell? ⟨gbBD, 1, none⟩ = some (.int .i64 a0_1) ∧ w'.cell? ⟨gbBD, 2, none⟩ = some (.int .i64 a0_2) ∧ w'.cell? ⟨gbBD, 3, none⟩ = some (.slice A0_3 l0_3.length c0_3)) (ds := []) #[false, false, false, false, false] (by kernel_rfl) rfl rfl ⟨(blk_cell BKBW.out 0).trans rfl, (blk_cell BKBW.out 1).trans rfl, (blk_cell BKBW.out 2).trans rfl, (blk_cell BKBW.out 3).trans rfl, (blk_cell BKBD.out 0).trans rfl, (blk_cell BKBD.out 1).trans rfl, (blk_cell BKBD.out 2).trans rfl, (blk_cell BKBD.out 3).trans rfl⟩ (fun hHeld => ?_)
      generalize wc.drew = w70 at HO_BX003 BKBD BKBP BKBW BKC1 HB hHeld ⊢
      refine take_ (i := 0) (N := some 45) (v := ?_) (a' := ?_) #[true, false, false, false, false] rfl rfl (by kernel_rfl) (fun _ _ _ h => h) (Or.inl ⟨by rfl, ?_⟩) hHeld ?_ ?_
      rotate_left
      ·rintro w' ⟨s0, s1, s2, s3, s4, s5, s6, s7⟩
       go_simp
       with_reducible rfl
      rotate_left
      ·simp only [Act.put, sA_, sB_, sC_, i64_w, i32_w]
       rfl
      refine take_ (i := 1) (N := some 46) (v := ?_) (a' := ?_) #[true, true, false, false, false] rfl rfl (by kernel_rfl) (fun _ _ _ h => h) (Or.inl ⟨by rfl, ?_⟩) hHeld ?_ ?_
      rotate_left
      ·rintro w' ⟨s0, s1, s2, s3, s4, s5, s6, s7⟩
       go_simp
       with_reducible rfl
      rotate_left
      ·simp only [Act.put, sA_, sB_, sC_, i64_w, i32_w]
       rfl
      refine one_ (i := 2) (N := some 47) #[true, true, true, false, false] rfl rfl (by kernel_rfl) (by decide) (fun K hK => ?_)
      refine goes_ Try.func39 (by kernel_rfl) rfl #[.agg #[.int .i64 a0_0, .int .i64 a0_1, .int .i64 a0_2, .slice A0_3 l0_3.length c0_3]] (by rfl) rfl rfl argS ?_
      with_reducible refine (laws_toBoard.calls kj10 a0_0 a0_1 a0_2 _ _ l0_3 tC3 tC4 tC5 tC6 _ ?side1 ?side2 A63.out).mono ?_
      (case side1 => exact Kd.C_up (Kd.C_below HR0_3.out HB.out))
      (case side2 => exact HC0_3.out)
      rintro e w71 ⟨vC7, rfl, ho0, hb⟩
      refine ⟨_, rfl, ?_⟩
      have n0_ := Am (Kd.R_elder' (Kd.R_up HO_BX003.out) (Kd.R_base ho0) hb)
      have n1_ := Am (Kd.R_lower (Kd.R_newB (Kd.R_newB (Kd.R_new' ho0 (Kd.R_lt (Kd.R_up HO_BX003.out))) (g := gbBP) (o := .cells #[.int .i64 tBL, .int .i64 tBM] 27 (0, 0)) (blk_up BKBP.out)) (g := gbC1) (o := .cells #[.int .i64 tBX, .int .i64 tBY] 27 (0, 0)) (blk_up BKC1.out)) (below_size belS))
      have n2_ := Am (blk_below (blk_up BKBD.out) hb)
      have n3_ := Am (blk_below (blk_up BKBP.out) hb)
      have n4_ := Am (blk_below (blk_up BKBW.out) hb)
      have n5_ := Am (blk_below (blk_up BKC1.out) hb)
      have n6_ := Am (below_step belS hb)
      clear HO_BX003
      clear BKBD
      clear BKBP
      clear BKBW
      clear BKC1
      clear HB
      have HO_BX003 := n0_
      have HOC8 := n1_
      have BKBD := n2_
      have BKBP := n3_
      have BKBW := n4_
      have BKC1 := n5_
      have HB := n6_
      clear n0_ n1_ n2_ n3_ n4_ n5_ n6_
      (try clear hb)
      (try clear hb2)
      (try clear hk)
      (try clear hi)
      (try clear ho0)
      obtain ⟨Ao72, co72, eo72⟩ := Kd.R_slice HOC8.out
      (first | subst eo72 | (injection eo72 with f1_ f2_ f3_; have f4_ := f1_.symm; have f5_ := f3_.symm; clear f1_ f2_ f3_; subst f4_; subst f5_))
      refine hK.out _ _ ⟨(blk_cell BKBW.out 0).trans rfl, (blk_cell BKBW.out 1).trans rfl, (blk_cell BKBW.out 2).trans rfl, (blk_cell BKBW.out 3).trans rfl, (blk_cell BKBD.out 0).trans rfl, (blk_cell BKBD.out 1).trans rfl, (blk_cell BKBD.out 2).trans rfl, (blk_cell BKBD.out 3).trans rfl⟩ (fun hHeld => ?_)
      clear hK K
      refine norm_ (a' := ?_) ?_ ?_
      rotate_left
      ·show Act.put _ (some 47) _ = _
       simp only [Act.put, sA_, sB_, sC_, i64_w, i32_w]
       rfl
      refine one_ (i := 3) (N := some 48) #[true, true, true, true, false] rfl rfl (by kernel_rfl) (by decide) (fun K hK => ?_)
      refine goes_ Try.func42 (by kernel_rfl) rfl #[.agg #[.int .i64 tBQ, .int .i64 tBR, .int .i64 tBS, .slice Ao28 tBT.length co28], .agg #[.int .i64 tC3, .int .i64 tC4, .int .i64 tC5, .slice Ao72 tC6.length co72]] (by rfl) rfl rfl argS ?_
      with_reducible refine (laws_eqBoard.calls kj10 tBQ tBR tBS _ _ tBT tC3 tC4 tC5 _ _ tC6 false _ ?side1 ?side2 ?side3 ?side4 A64.out).mono ?_
      (case side1 => exact Kd.C_up (Kd.R_reads' HO_BX003.out).2.2)
      (case side2 => exact (Kd.R_reads' HO_BX003.out).2.1)
      (case side3 => exact Kd.C_up (Kd.R_reads' HOC8.out).2.2)
      (case side4 => exact (Kd.R_reads' HOC8.out).2.1)
      rintro e w73 ⟨rfl, hb⟩
      refine ⟨_, rfl, ?_⟩
      have n0_ := Am (Kd.R_below (Kd.R_up HO_BX003.out) hb)
      have n1_ := Am (Kd.R_below (Kd.R_up HOC8.out) hb)
      have n2_ := Am (blk_below (blk_up BKBD.out) hb)
      have n3_ := Am (blk_below (blk_up BKBP.out) hb)
      have n4_ := Am (blk_below (blk_up BKBW.out) hb)
      have n5_ := Am (blk_below (blk_up BKC1.out) hb)
      have n6_ := Am (below_step belS hb)
      clear HO_BX003
      clear HOC8
      clear BKBD
      clear BKBP
      clear BKBW
      clear BKC1
      clear HB
      have HO_BX003 := n0_
      have HOC8 := n1_
      have BKBD := n2_
      have BKBP := n3_
      have BKBW := n4_
      have BKC1 := n5_
      have HB := n6_
      clear n0_ n1_ n2_ n3_ n4_ n5_ n6_
      (try clear hb)
      (try clear hb2)
      (try clear hk)
      (try clear hi)
      refine hK.out _ _ ⟨(blk_cell BKBW.out 0).trans rfl, (blk_cell BKBW.out 1).trans rfl, (blk_cell BKBW.out 2).trans rfl, (blk_cell BKBW.out 3).trans rfl, (blk_cell BKBD.out 0).trans rfl, (blk_cell BKBD.out 1).trans rfl, (blk_cell BKBD.out 2).trans rfl, (blk_cell BKBD.out 3).trans rfl⟩ (fun hHeld => ?_)
      clear hK K
      refine norm_ (a' := ?_) ?_ ?_
      rotate_left
      ·show Act.put _ (some 48) _ = _
       simp only [Act.put, sA_, sB_, sC_, i64_w, i32_w]
       rfl
      refine pure_ (i := 4) (N := some 49) (v := ?_) (a' := ?_) #[true, true, true, true, true] rfl rfl (by kernel_rfl) (fun _ _ _ h => h) (Or.inl ⟨by rfl, ?_⟩) ?_ ?_
      rotate_left
      ·intro w'
       go_simp
       with_reducible rfl
      rotate_left
      ·simp only [Act.put, sA_, sB_, sC_, i64_w, i32_w]
       rfl
      refine done_ (by kernel_rfl) ?_
      try go_wp2
      go_ret
      exact ⟨rfE, by exact belS⟩

end Go.Proofs.Ytkobjjadojpjfaa.Pr
