-- A text of the machine side, written by wip/gen.py of this repo out of the translation. Not trusted: Lean checks it.
import Derived.Test.YtnbleinhabllnaaDoorF0
import Derived.Test.YtnbleinhabllnaaDoorFGA
import Derived.Test.YtnbleinhabllnaaDoorFImplBoardText
import Derived.Test.YtnbleinhabllnaaDoorFSpecBoardText
import Derived.Test.YtnbleinhabllnaaDoorHItoa
namespace Go.Proofs.YtnbleinhabllnaaDoor.Pr
open Go.RowKit Go.Proofs.YtnbleinhabllnaaDoorW.PrintWords Go.Proofs.YtnbleinhabllnaaDoorW.PrintLast Go.Proofs.YtnbleinhabllnaaDoorW.PrintMore
attribute [local go_sem] max2_int min2_int max_two min_two max_three min_three max_four min_four   -- for this text's walks alone
set_option linter.unusedVariables false
set_option linter.unusedSimpArgs false

/-! ### laws_FnExactBoardText: function 5 -/
def laws_FnExactBoardText.j0 : Nat → Bool → Int → Int → Int → List (S81) → Int → Int → Int → List (S61) → Option (Bool)
 | 0, _, _, _, _, _, _, _, _, _ => none
 | k + 1, x34, xBE000, xBE001, xBE002, xBE003, xBU000, xBU001, xBU002, xBU003 => if x34 = true then (some false) else ((laws_toBoard.f k xBE000 xBE001 xBE002 xBE003).bind fun btBW => ((laws_eqBoard.f k xBU000 xBU001 xBU002 xBU003 btBW.1 btBW.2.1 btBW.2.2.1 btBW.2.2.2).bind fun tC2 => (if tC2 = true then (some true) else (some false))))
def laws_FnExactBoardText.f (k : Nat) (a0_0 : Int) (a0_1 : Int) (a0_2 : Int) (l0_3 : List (S81)) : Option (Bool) := (laws_szBoard.f a0_0 a0_1 a0_2 l0_3 1048576).bind fun tBE => (if tBE < 0 then (some true) else ((laws_toBoard.f k a0_0 a0_1 a0_2 l0_3).bind fun btBF => ((spec_BoardText.f k btBF.1 btBF.2.1 btBF.2.2.1 btBF.2.2.2).bind fun btBL => ((laws_toBoard.f k a0_0 a0_1 a0_2 l0_3).bind fun btBN => ((impl_BoardText.f k btBN.1 btBN.2.1 btBN.2.2.1 btBN.2.2.2).bind fun btBU => (if btBU.1.toList = btBL.1.toList then (laws_FnExactBoardText.j0 k (btBU.2 != btBL.2) a0_0 a0_1 a0_2 l0_3 btBN.1 btBN.2.1 btBN.2.2.1 btBN.2.2.2) else (laws_FnExactBoardText.j0 k true a0_0 a0_1 a0_2 l0_3 btBN.1 btBN.2.1 btBN.2.2.1 btBN.2.2.2)))))))
set_option maxHeartbeats 8000000 in
set_option maxRecDepth 100000 in
theorem laws_FnExactBoardText.calls (k : Nat) (a0_0 : Int) (a0_1 : Int) (a0_2 : Int) (A0_3 : Option Addr) (c0_3 : Nat) (l0_3 : List (S81)) (r : Bool) (w : World) (hr0_3 : Kd.C k81 w A0_3 l0_3.length l0_3) (hc0_3 : l0_3.length ≤ c0_3) (h : laws_FnExactBoardText.f k a0_0 a0_1 a0_2 l0_3 = some r) (ht : TabW w) :
  Calls Tryd.prog 5 #[.agg #[.int .i64 a0_0, .int .i64 a0_1, .int .i64 a0_2, .slice A0_3 l0_3.length c0_3]] w fun e w' => e = .returned (.bool r) ∧ Below w.heap.size w w' := by
 have HT := Am ht
 clear ht
 have hu38 := Tryd.underlying38
 have hu24 := Tryd.underlying24
 have HR0_3 := Am hr0_3
 have HC0_3 := Am hc0_3
 clear hr0_3 hc0_3
 have HB := Am (Below.refl w.heap.size w)
 have H : ((laws_szBoard.f a0_0 a0_1 a0_2 l0_3 1048576).bind fun tBE => (if tBE < 0 then (some true) else ((laws_toBoard.f k a0_0 a0_1 a0_2 l0_3).bind fun btBF => ((spec_BoardText.f k btBF.1 btBF.2.1 btBF.2.2.1 btBF.2.2.2).bind fun btBL => ((laws_toBoard.f k a0_0 a0_1 a0_2 l0_3).bind fun btBN => ((impl_BoardText.f k btBN.1 btBN.2.1 btBN.2.2.1 btBN.2.2.2).bind fun btBU => (if btBU.1.toList = btBL.1.toList then (laws_FnExactBoardText.j0 k (btBU.2 != btBL.2) a0_0 a0_1 a0_2 l0_3 btBN.1 btBN.2.1 btBN.2.2.1 btBN.2.2.2) else (laws_FnExactBoardText.j0 k true a0_0 a0_1 a0_2 l0_3 btBN.1 btBN.2.1 btBN.2.2.1 btBN.2.2.2)))))))) = some r := h
 clear h
 replace H := Option.bind_eq_some_iff.mp H
 obtain ⟨tBE, A20, H⟩ := H
 replace H : (if tBE < 0 then (some true) else ((laws_toBoard.f k a0_0 a0_1 a0_2 l0_3).bind fun btBF => ((spec_BoardText.f k btBF.1 btBF.2.1 btBF.2.2.1 btBF.2.2.2).bind fun btBL => ((laws_toBoard.f k a0_0 a0_1 a0_2 l0_3).bind fun btBN => ((impl_BoardText.f k btBN.1 btBN.2.1 btBN.2.2.1 btBN.2.2.2).bind fun btBU => (if btBU.1.toList = btBL.1.toList then (laws_FnExactBoardText.j0 k (btBU.2 != btBL.2) a0_0 a0_1 a0_2 l0_3 btBN.1 btBN.2.1 btBN.2.2.1 btBN.2.2.2) else (laws_FnExactBoardText.j0 k true a0_0 a0_1 a0_2 l0_3 btBN.1 btBN.2.1 btBN.2.2.1 btBN.2.2.2))))))) = some r := H
 have A2 := Am A20
 clear A20
 by_cases c3 : tBE < 0
 ·rw [if_pos c3] at H
  have c3b0 : decide (tBE < 0) = true := decide_eq_true c3
  clear c3
  obtain rfl := Option.some.inj H
  go_enter Tryd.func5, Tryd.ntmps5
  go_wp2_with (first | ((with_reducible refine gate_dst (N := 1) rfl ?_); refine box_event (by rfl) (N := 1) (by rfl) (cs := #[.int .i64 a0_0, .int .i64 a0_1, .int .i64 a0_2, .slice A0_3 l0_3.length c0_3]) (t := 38) hrS ?_; intro gbBD hg w4 hbox hb; have n0_ := Am (below_step belS hb); have n1_ := Am (hbox); have n2_ := Am (geS hg : w.heap.size ≤ gbBD); have n3_ := n2_; clear HB; revert n0_ n1_ n2_ n3_; intro HB BKBD GWBD GEBD; clear hb hbox hg; obtain ⟨hcz5_0, hcz5_1, hcz5_2, hcz5_3, hfz5_0, hfz5_1, hfz5_2, hfz5_3⟩ := blk4 BKBD.out) | ((with_reducible refine gate_callee (f := 17) rfl ?_); refine goesL_ (some 11) rfl rfl Tryd.func17 (by kernel_rfl) rfl #[.agg #[.int .i64 a0_0, .int .i64 a0_1, .int .i64 a0_2, .slice A0_3 l0_3.length c0_3], .int .i64 1048576] rfl argS ?_; (with_reducible refine (laws_szBoard.calls a0_0 a0_1 a0_2 _ _ l0_3 1048576 tBE _ ?side1 ?side2 A2.out).mono ?_); (case side1 => exact Kd.C_up (Kd.C_below HR0_3.out HB.out)); (case side2 => exact HC0_3.out); rintro e w6 ⟨rfl, hb⟩; refine ⟨_, rfl, ?_⟩; have n0_ := Am (blk_below (blk_up BKBD.out) hb); have n1_ := Am (below_step belS hb); clear BKBD HB; revert n0_ n1_; intro BKBD HB; (try clear hb)))
  go_ret
  exact ⟨rfE, by exact belS⟩
 ·rw [if_neg c3] at H
  have c3b0 : decide (tBE < 0) = false := decide_eq_false c3
  clear c3
  replace H := Option.bind_eq_some_iff.mp H
  obtain ⟨⟨tBF, tBG, tBH, tBI⟩, A70, H⟩ := H
  replace H : ((spec_BoardText.f k tBF tBG tBH tBI).bind fun btBL => ((laws_toBoard.f k a0_0 a0_1 a0_2 l0_3).bind fun btBN => ((impl_BoardText.f k btBN.1 btBN.2.1 btBN.2.2.1 btBN.2.2.2).bind fun btBU => (if btBU.1.toList = btBL.1.toList then (laws_FnExactBoardText.j0 k (btBU.2 != btBL.2) a0_0 a0_1 a0_2 l0_3 btBN.1 btBN.2.1 btBN.2.2.1 btBN.2.2.2) else (laws_FnExactBoardText.j0 k true a0_0 a0_1 a0_2 l0_3 btBN.1 btBN.2.1 btBN.2.2.1 btBN.2.2.2))))) = some r := H
  have A7 := Am A70
  clear A70
  replace H := Option.bind_eq_some_iff.mp H
  obtain ⟨⟨tBL, tBM⟩, A80, H⟩ := H
  replace H : ((laws_toBoard.f k a0_0 a0_1 a0_2 l0_3).bind fun btBN => ((impl_BoardText.f k btBN.1 btBN.2.1 btBN.2.2.1 btBN.2.2.2).bind fun btBU => (if btBU.1.toList = tBL.toList then (laws_FnExactBoardText.j0 k (btBU.2 != tBM) a0_0 a0_1 a0_2 l0_3 btBN.1 btBN.2.1 btBN.2.2.1 btBN.2.2.2) else (laws_FnExactBoardText.j0 k true a0_0 a0_1 a0_2 l0_3 btBN.1 btBN.2.1 btBN.2.2.1 btBN.2.2.2)))) = some r := H
  have A8 := Am A80
  clear A80
  replace H := Option.bind_eq_some_iff.mp H
  obtain ⟨⟨tBN, tBO, tBP, tBQ⟩, A90, H⟩ := H
  replace H : ((impl_BoardText.f k tBN tBO tBP tBQ).bind fun btBU => (if btBU.1.toList = tBL.toList then (laws_FnExactBoardText.j0 k (btBU.2 != tBM) a0_0 a0_1 a0_2 l0_3 tBN tBO tBP tBQ) else (laws_FnExactBoardText.j0 k true a0_0 a0_1 a0_2 l0_3 tBN tBO tBP tBQ))) = some r := H
  have A9 := Am A90
  clear A90
  replace H := Option.bind_eq_some_iff.mp H
  obtain ⟨⟨tBU, tBV⟩, A100, H⟩ := H
  replace H : (if tBU.toList = tBL.toList then (laws_FnExactBoardText.j0 k (tBV != tBM) a0_0 a0_1 a0_2 l0_3 tBN tBO tBP tBQ) else (laws_FnExactBoardText.j0 k true a0_0 a0_1 a0_2 l0_3 tBN tBO tBP tBQ)) = some r := H
  have A10 := Am A100
  clear A100
  have HC11 := Am H
  clear H
  go_enter Tryd.func5, Tryd.ntmps5
  go_upto_region 8 with (first | ((with_reducible refine gate_dst (N := 1) rfl ?_); refine box_event (by rfl) (N := 1) (by rfl) (cs := #[.int .i64 a0_0, .int .i64 a0_1, .int .i64 a0_2, .slice A0_3 l0_3.length c0_3]) (t := 38) hrS ?_; intro gbBD hg w12 hbox hb; have n0_ := Am (below_step belS hb); have n1_ := Am (hbox); have n2_ := Am (geS hg : w.heap.size ≤ gbBD); have n3_ := n2_; clear HB; revert n0_ n1_ n2_ n3_; intro HB BKBD GWBD GEBD; clear hb hbox hg; obtain ⟨hcz13_0, hcz13_1, hcz13_2, hcz13_3, hfz13_0, hfz13_1, hfz13_2, hfz13_3⟩ := blk4 BKBD.out) | ((with_reducible refine gate_callee (f := 17) rfl ?_); refine goesL_ (some 11) rfl rfl Tryd.func17 (by kernel_rfl) rfl #[.agg #[.int .i64 a0_0, .int .i64 a0_1, .int .i64 a0_2, .slice A0_3 l0_3.length c0_3], .int .i64 1048576] rfl argS ?_; (with_reducible refine (laws_szBoard.calls a0_0 a0_1 a0_2 _ _ l0_3 1048576 tBE _ ?side1 ?side2 A2.out).mono ?_); (case side1 => exact Kd.C_up (Kd.C_below HR0_3.out HB.out)); (case side2 => exact HC0_3.out); rintro e w14 ⟨rfl, hb⟩; refine ⟨_, rfl, ?_⟩; have n0_ := Am (blk_below (blk_up BKBD.out) hb); have n1_ := Am (below_step belS hb); clear BKBD HB; revert n0_ n1_; intro BKBD HB; (try clear hb); obtain ⟨hcz15_0, hcz15_1, hcz15_2, hcz15_3, hfz15_0, hfz15_1, hfz15_2, hfz15_3⟩ := blk4 BKBD.out) | ((with_reducible refine gate_callee (f := 19) rfl ?_); refine goesL_ (some 16) rfl rfl Tryd.func19 (by kernel_rfl) rfl #[.agg #[.int .i64 a0_0, .int .i64 a0_1, .int .i64 a0_2, .slice A0_3 l0_3.length c0_3]] rfl argS ?_; (with_reducible refine (laws_toBoard.calls k a0_0 a0_1 a0_2 _ _ l0_3 tBF tBG tBH tBI _ ?side1 ?side2 A7.out).mono ?_); (case side1 => exact Kd.C_up (Kd.C_below HR0_3.out HB.out)); (case side2 => exact HC0_3.out); rintro e w16 ⟨vBJ, rfl, ho0, hb⟩; refine ⟨_, rfl, ?_⟩; have n0_ := Am (Kd.R_lower ho0 (below_size belS)); have n1_ := Am (blk_below (blk_up BKBD.out) hb); have n2_ := Am (below_step belS hb); clear BKBD HB; revert n0_ n1_ n2_; intro HOBK BKBD HB; (try clear hb); (try clear ho0); obtain ⟨Ao17, co17, eo17⟩ := Kd.R_slice HOBK.out; subst eo17) | ((with_reducible refine gate_callee (f := 18) rfl ?_); refine goesL_ (some 17) rfl rfl Tryd.func18 (by kernel_rfl) rfl #[.agg #[.int .i64 tBF, .int .i64 tBG, .int .i64 tBH, .slice Ao17 tBI.length co17]] rfl argS ?_; (with_reducible refine (spec_BoardText.calls k tBF tBG tBH _ _ tBI tBL tBM _ ?side1 ?side2 A8.out).mono ?_); (case side1 => exact Kd.C_up (Kd.R_reads' HOBK.out).2.2); (case side2 => exact (Kd.R_reads' HOBK.out).2.1); rintro e w18 ⟨rfl, hb⟩; refine ⟨_, rfl, ?_⟩; have n0_ := Am (Kd.R_below (Kd.R_up HOBK.out) hb); have n1_ := Am (blk_below (blk_up BKBD.out) hb); have n2_ := Am (below_step belS hb); clear HOBK BKBD HB; revert n0_ n1_ n2_; intro HOBK BKBD HB; (try clear hb); obtain ⟨hcz19_0, hcz19_1, hcz19_2, hcz19_3, hfz19_0, hfz19_1, hfz19_2, hfz19_3⟩ := blk4 BKBD.out) | ((with_reducible refine gate_callee (f := 19) rfl ?_); refine goesL_ (some 21) rfl rfl Tryd.func19 (by kernel_rfl) rfl #[.agg #[.int .i64 a0_0, .int .i64 a0_1, .int .i64 a0_2, .slice A0_3 l0_3.length c0_3]] rfl argS ?_; (with_reducible refine (laws_toBoard.calls k a0_0 a0_1 a0_2 _ _ l0_3 tBN tBO tBP tBQ _ ?side1 ?side2 A9.out).mono ?_); (case side1 => exact Kd.C_up (Kd.C_below HR0_3.out HB.out)); (case side2 => exact HC0_3.out); rintro e w20 ⟨vBR, rfl, ho0, hb⟩; refine ⟨_, rfl, ?_⟩; have n0_ := Am (Kd.R_elder' (Kd.R_up HOBK.out) (Kd.R_base ho0) hb); have n1_ := Am (Kd.R_lower (Kd.R_new' ho0 (Kd.R_lt (Kd.R_up HOBK.out))) (below_size belS)); have n2_ := Am (blk_below (blk_up BKBD.out) hb); have n3_ := Am (below_step belS hb); clear HOBK BKBD HB; revert n0_ n1_ n2_ n3_; intro HOBK HOBS BKBD HB; (try clear hb); (try clear ho0)) | ((with_reducible refine gate_dst (N := 6) rfl ?_); refine box_event (by rfl) (N := 6) (by rfl) (cs := #[.int .i64 0, .int .i64 0, .int .i64 0, .slice none 0 0]) (t := 24) hrS ?_; intro gbBT hg w21 hbox hb; have n0_ := Am (Kd.R_below (Kd.R_up HOBK.out) hb); have n1_ := Am (Kd.R_below (Kd.R_up HOBS.out) hb); have n2_ := Am (blk_below (blk_up BKBD.out) hb); have n3_ := Am (below_step belS hb); have n4_ := Am (hbox); have n5_ := Am (geS hg : w.heap.size ≤ gbBT); have n6_ := n5_; have n7_ := Am ((by rw [hg]; exact Nat.ne_of_lt (blk_lt (blk_up BKBD.out)) : gbBD ≠ gbBT)); have n8_ := Am ((by rw [hg]; exact Nat.ne_of_gt (blk_lt (blk_up BKBD.out)) : gbBT ≠ gbBD)); clear HOBK HOBS BKBD HB; revert n0_ n1_ n2_ n3_ n4_ n5_ n6_ n7_ n8_; intro HOBK HOBS BKBD HB BKBT GWBT GEBT NBBD_BT NBBT_BD; clear hb hbox hg; have hnb22 := NBBT_BD.out; have hnc22 := NBBD_BT.out; obtain ⟨hcz23_0, hcz23_1, hcz23_2, hcz23_3, hfz23_0, hfz23_1, hfz23_2, hfz23_3⟩ := blk4 BKBT.out; obtain ⟨Ao24, co24, eo24⟩ := Kd.R_slice HOBS.out; subst eo24) | ((with_reducible refine gate_callee (f := 20) rfl ?_); refine goesL_ (some 24) rfl rfl Tryd.func20 (by kernel_rfl) rfl #[.agg #[.int .i64 tBN, .int .i64 tBO, .int .i64 tBP, .slice Ao24 tBQ.length co24]] rfl argS ?_; (with_reducible refine (impl_BoardText.calls k tBN tBO tBP _ _ tBQ tBU tBV _ ?side1 ?side2 A10.out (tab_up HT.out belS)).mono ?_); (case side1 => refine (Kd.R_reads' (e := 61) (base := w.heap.size) (ok := fun k_ => (True ∧ some k_ ≠ (.slice Ao17 tBI.length co17 : Value).ownBlock)) (n := tBQ.length) (c := co24) ?_).2.2; exact (by (with_reducible repeat (first | apply Kd.R_alloc | apply Kd.R_drewN | apply Kd.R_drew)); exact (Kd.R_mono (Kd.R_far (p := ⟨gbBT, 3, none⟩) (Kd.R_far (p := ⟨gbBT, 2, none⟩) (Kd.R_far (p := ⟨gbBT, 1, none⟩) (Kd.R_far (p := ⟨gbBT, 0, none⟩) (Kd.R_types HOBS.out BKBT.out (by decide)) (fun _ hk => hk.2) (.int .i64 tBN)) (fun _ hk => hk.2) (.int .i64 tBO)) (fun _ hk => hk.2) (.int .i64 tBP)) (fun _ hk => hk.2) (.slice Ao24 tBQ.length co24)) (fun _ h_ => h_.1)))); (case side2 => exact (Kd.R_reads' HOBS.out).2.1); rintro e w25 ⟨rfl, hb⟩; refine ⟨_, rfl, ?_⟩; have n0_ := Am (Kd.R_below (by (with_reducible repeat (first | apply Kd.R_alloc | apply Kd.R_drewN | apply Kd.R_drew)); exact (Kd.R_mono (Kd.R_far (p := ⟨gbBT, 3, none⟩) (Kd.R_far (p := ⟨gbBT, 2, none⟩) (Kd.R_far (p := ⟨gbBT, 1, none⟩) (Kd.R_far (p := ⟨gbBT, 0, none⟩) (Kd.R_types HOBK.out BKBT.out (by decide)) (fun _ hk => hk.2) (.int .i64 tBN)) (fun _ hk => hk.2) (.int .i64 tBO)) (fun _ hk => hk.2) (.int .i64 tBP)) (fun _ hk => hk.2) (.slice Ao24 tBQ.length co24)) (fun _ h_ => h_.1))) hb); have n1_ := Am (Kd.R_below (by (with_reducible repeat (first | apply Kd.R_alloc | apply Kd.R_drewN | apply Kd.R_drew)); exact (Kd.R_mono (Kd.R_far (p := ⟨gbBT, 3, none⟩) (Kd.R_far (p := ⟨gbBT, 2, none⟩) (Kd.R_far (p := ⟨gbBT, 1, none⟩) (Kd.R_far (p := ⟨gbBT, 0, none⟩) (Kd.R_types HOBS.out BKBT.out (by decide)) (fun _ hk => hk.2) (.int .i64 tBN)) (fun _ hk => hk.2) (.int .i64 tBO)) (fun _ hk => hk.2) (.int .i64 tBP)) (fun _ hk => hk.2) (.slice Ao24 tBQ.length co24)) (fun _ h_ => h_.1))) hb); have n2_ := Am (blk_below (g := gbBD) (o := .cells #[.int .i64 a0_0, .int .i64 a0_1, .int .i64 a0_2, .slice A0_3 l0_3.length c0_3] 38 (0, 0)) (by (with_reducible repeat (first | refine blk_drewN ?_ _ | refine blk_drew ?_ | refine blk_alloc ?_ _)); refine blk_farU ?_ NBBD_BT.out _; refine blk_farU ?_ NBBD_BT.out _; refine blk_farU ?_ NBBD_BT.out _; refine blk_farU ?_ NBBD_BT.out _; exact BKBD.out) hb); have n3_ := Am (blk_below (g := gbBT) (o := .cells #[.int .i64 tBN, .int .i64 tBO, .int .i64 tBP, .slice Ao24 tBQ.length co24] 24 (0, 0)) (by (with_reducible repeat (first | refine blk_drewN ?_ _ | refine blk_drew ?_ | refine blk_alloc ?_ _)); refine blk_put (cs := #[.int .i64 tBN, .int .i64 tBO, .int .i64 tBP, .slice none 0 0]) ?_ 3 _ rfl; refine blk_put (cs := #[.int .i64 tBN, .int .i64 tBO, .int .i64 0, .slice none 0 0]) ?_ 2 _ rfl; refine blk_put (cs := #[.int .i64 tBN, .int .i64 0, .int .i64 0, .slice none 0 0]) ?_ 1 _ rfl; refine blk_putU (cs := #[.int .i64 0, .int .i64 0, .int .i64 0, .slice none 0 0]) ?_ 0 _ rfl; exact BKBT.out) hb); have n4_ := Am (below_step belS hb); clear HOBK HOBS BKBD BKBT HB; revert n0_ n1_ n2_ n3_ n4_; intro HOBK HOBS BKBD BKBT HB; (try clear hb); (try clear hk)))
  (try simp only [Act.put, sA_, sB_, sC_])
  go_cut [34] (fun v34 wc => ∃ (kq : Nat) (x34_10 : Bool), v34 = .bool x34_10 ∧ Aside0 (laws_FnExactBoardText.j0 kq x34_10 a0_0 a0_1 a0_2 l0_3 tBN tBO tBP tBQ = some r) ∧ Aside0 (kq ≤ k) ∧ Aside0 (Kd.R k61 61 wc w.heap.size (fun _ => True) (.slice Ao24 tBQ.length co24) tBQ) ∧ Aside0 (wc.heap[gbBD]? = some (.cells #[.int .i64 a0_0, .int .i64 a0_1, .int .i64 a0_2, (.slice A0_3 l0_3.length c0_3)] 38 (0, 0))) ∧ Aside0 (wc.heap[gbBT]? = some (.cells #[.int .i64 tBN, .int .i64 tBO, .int .i64 tBP, (.slice Ao24 tBQ.length co24)] 24 (0, 0))) ∧ Aside0 (Below w.heap.size w wc))
  case first =>
   have H := HC11.out
   clear HC11
   by_cases c26 : tBU.toList = tBL.toList
   ·rw [if_pos c26] at H
    have c26b0 : (tBU.toList == tBL.toList) = true := beq_iff_eq.mpr c26
    have c26b1 : (tBU.toList != tBL.toList) = false := bne_eq_false_iff_eq.mpr c26
    clear c26
    (first | rw [c26b0] | (simp only [i64_w, i32_w]; rw [c26b0]) | skip)
    have H' := Am H
    clear H
    go_wp2
    go_meet
    case rel => exact ⟨_, ((tBV != tBM)), rfS, H', ⟨by first | omega | exact Nat.le_refl _⟩, ⟨by (with_reducible repeat (first | apply Kd.R_alloc | apply Kd.R_drewN | apply Kd.R_drew)); exact Kd.R_mono HOBS.out (fun _ hk => trivial)⟩, ⟨by first | exact blk_up BKBD.out | exact BKBD.out⟩, ⟨by first | exact blk_up BKBT.out | exact BKBT.out⟩, ⟨by exact belS⟩⟩
   ·rw [if_neg c26] at H
    have c26b0 : (tBU.toList == tBL.toList) = false := beq_eq_false_iff_ne.mpr c26
    have c26b1 : (tBU.toList != tBL.toList) = true := bne_iff_ne.mpr c26
    (first | rw [c26b0] | (simp only [i64_w, i32_w]; rw [c26b0]) | skip)
    have H' := Am H
    clear H
    go_wp2
    go_meet
    case rel => exact ⟨_, (true), rfS, H', ⟨by first | omega | exact Nat.le_refl _⟩, ⟨by (with_reducible repeat (first | apply Kd.R_alloc | apply Kd.R_drewN | apply Kd.R_drew)); exact Kd.R_mono HOBS.out (fun _ hk => trivial)⟩, ⟨by first | exact blk_up BKBD.out | exact BKBD.out⟩, ⟨by first | exact blk_up BKBT.out | exact BKBT.out⟩, ⟨by exact belS⟩⟩
  case rest =>
   clear HC11
   try clear c3
   try clear c3b0
   try clear hcz13_0 hcz13_1 hcz13_2 hcz13_3
   try clear hcz15_0 hcz15_1 hcz15_2 hcz15_3
   try clear hcz19_0 hcz19_1 hcz19_2 hcz19_3
   try clear hcz23_0 hcz23_1 hcz23_2 hcz23_3
   try clear hfz13_0 hfz13_1 hfz13_2 hfz13_3
   try clear hfz15_0 hfz15_1 hfz15_2 hfz15_3
   try clear hfz19_0 hfz19_1 hfz19_2 hfz19_3
   try clear hfz23_0 hfz23_1 hfz23_2 hfz23_3
   obtain ⟨kq, x34_10, rfl, HA, HJ10, HO_BU003, BKBD, BKBT, HB⟩ := hcut
   cases kq with
   | zero => exact absurd HA.out (by simp [laws_FnExactBoardText.j0])
   | succ kj10 =>
    have H := HA.out
    clear HA
    simp only [laws_FnExactBoardText.j0] at H
    by_cases c27 : x34_10 = true
    ·subst c27
     have H1 : (some false) = some r := by rw [if_pos rfl] at H; exact H
     clear H
     have H := H1
     clear H1
     obtain rfl := Option.some.inj H
     go_wp2
     go_ret
     exact ⟨rfE, by exact belS⟩
    ·replace c27 := Bool.eq_false_iff.mpr c27
     subst c27
     have H1 : ((laws_toBoard.f kj10 a0_0 a0_1 a0_2 l0_3).bind fun btBW => ((laws_eqBoard.f kj10 tBN tBO tBP tBQ btBW.1 btBW.2.1 btBW.2.2.1 btBW.2.2.2).bind fun tC2 => (if tC2 = true then (some true) else (some false)))) = some r := by rw [if_neg (show ¬ (false = true) by decide)] at H; exact H
     clear H
     have H := H1
     clear H1
     replace H := Option.bind_eq_some_iff.mp H
     obtain ⟨⟨tBW, tBX, tBY, tBZ⟩, A280, H⟩ := H
     replace H : ((laws_eqBoard.f kj10 tBN tBO tBP tBQ tBW tBX tBY tBZ).bind fun tC2 => (if tC2 = true then (some true) else (some false))) = some r := H
     have A28 := Am A280
     clear A280
     replace H := Option.bind_eq_some_iff.mp H
     obtain ⟨tC2, A290, H⟩ := H
     replace H : (if tC2 = true then (some true) else (some false)) = some r := H
     have A29 := Am A290
     clear A290
     by_cases c30 : tC2 = true
     ·subst c30
      have H1 : (some true) = some r := by rw [if_pos rfl] at H; exact H
      clear H
      have H := H1
      clear H1
      obtain rfl := Option.some.inj H
      try go_wp2
      have n0_ := Am (Kd.R_drew HO_BU003.out)
      have n1_ := Am (blk_drew BKBD.out)
      have n2_ := Am (blk_drew BKBT.out)
      have n3_ := Am (below_drew1 HB.out)
      clear HO_BU003
      clear BKBD
      clear BKBT
      clear HB
      have HO_BU003 := n0_
      have BKBD := n1_
      have BKBT := n2_
      have HB := n3_
      clear n0_ n1_ n2_ n3_
      refine start_ (n := 5) (S := fun w' => w'.cell? ⟨gbBT, 0, none⟩ = some (.int .i64 tBN) ∧ w'.cell? ⟨gbBT, 1, none⟩ = some (.int .i64 tBO) ∧ w'.cell? ⟨gbBT, 2, none⟩ = some (.int .i64 tBP) ∧ w'.cell? ⟨gbBT, 3, none⟩ = some (.slice Ao24 tBQ.length co24) ∧ w'.cell? ⟨gbBD, 0, none⟩ = some (.int .i64 a0_0) ∧ w'.cell? ⟨gbBD, 1, none⟩ = some (.int .i64 a0_1) ∧ w'.cell? ⟨gbBD, 2, none⟩ = some (.int .i64 a0_2) ∧ w'.cell? ⟨gbBD, 3, none⟩ = some (.slice A0_3 l0_3.length c0_3)) (ds := []) #[false, false, false, false, false] (by kernel_rfl) rfl rfl ⟨(blk_cell BKBT.out 0).trans rfl, (blk_cell BKBT.out 1).trans rfl, (blk_cell BKBT.out 2).trans rfl, (blk_cell BKBT.out 3).trans rfl, (blk_cell BKBD.out 0).trans rfl, (blk_cell BKBD.out 1).trans rfl, (blk_cell BKBD.out 2).trans rfl, (blk_cell BKBD.out 3).trans rfl⟩ (fun hHeld => ?_)
      generalize wc.drew = w31 at HO_BU003 BKBD BKBT HB hHeld ⊢
      refine take_ (i := 0) (N := some 35) (v := ?_) (a' := ?_) #[true, false, false, false, false] rfl rfl (by kernel_rfl) (fun _ _ _ h => h) (Or.inl ⟨by rfl, ?_⟩) hHeld ?_ ?_
      rotate_left
      ·rintro w' ⟨s0, s1, s2, s3, s4, s5, s6, s7⟩
       go_simp
       with_reducible rfl
      rotate_left
      ·simp only [Act.put, sA_, sB_, sC_, i64_w, i32_w]
       rfl
      refine take_ (i := 1) (N := some 36) (v := ?_) (a' := ?_) #[true, true, false, false, false] rfl rfl (by kernel_rfl) (fun _ _ _ h => h) (Or.inl ⟨by rfl, ?_⟩) hHeld ?_ ?_
      rotate_left
      ·rintro w' ⟨s0, s1, s2, s3, s4, s5, s6, s7⟩
       go_simp
       with_reducible rfl
      rotate_left
      ·simp only [Act.put, sA_, sB_, sC_, i64_w, i32_w]
       rfl
      refine one_ (i := 2) (N := some 37) #[true, true, true, false, false] rfl rfl (by kernel_rfl) (by decide) (fun K hK => ?_)
      refine goes_ Tryd.func19 (by kernel_rfl) rfl #[.agg #[.int .i64 a0_0, .int .i64 a0_1, .int .i64 a0_2, .slice A0_3 l0_3.length c0_3]] (by rfl) rfl rfl argS ?_
      with_reducible refine (laws_toBoard.calls kj10 a0_0 a0_1 a0_2 _ _ l0_3 tBW tBX tBY tBZ _ ?side1 ?side2 A28.out).mono ?_
      (case side1 => exact Kd.C_up (Kd.C_below HR0_3.out HB.out))
      (case side2 => exact HC0_3.out)
      rintro e w32 ⟨vC0, rfl, ho0, hb⟩
      refine ⟨_, rfl, ?_⟩
      have n0_ := Am (Kd.R_elder' (Kd.R_up HO_BU003.out) (Kd.R_base ho0) hb)
      have n1_ := Am (Kd.R_lower (Kd.R_new' ho0 (Kd.R_lt (Kd.R_up HO_BU003.out))) (below_size belS))
      have n2_ := Am (blk_below (blk_up BKBD.out) hb)
      have n3_ := Am (blk_below (blk_up BKBT.out) hb)
      have n4_ := Am (below_step belS hb)
      clear HO_BU003
      clear BKBD
      clear BKBT
      clear HB
      have HO_BU003 := n0_
      have HOC1 := n1_
      have BKBD := n2_
      have BKBT := n3_
      have HB := n4_
      clear n0_ n1_ n2_ n3_ n4_
      (try clear hb)
      (try clear hb2)
      (try clear hk)
      (try clear hi)
      (try clear ho0)
      obtain ⟨Ao33, co33, eo33⟩ := Kd.R_slice HOC1.out
      (first | subst eo33 | (injection eo33 with f1_ f2_ f3_; have f4_ := f1_.symm; have f5_ := f3_.symm; clear f1_ f2_ f3_; subst f4_; subst f5_))
      refine hK.out _ _ ⟨(blk_cell BKBT.out 0).trans rfl, (blk_cell BKBT.out 1).trans rfl, (blk_cell BKBT.out 2).trans rfl, (blk_cell BKBT.out 3).trans rfl, (blk_cell BKBD.out 0).trans rfl, (blk_cell BKBD.out 1).trans rfl, (blk_cell BKBD.out 2).trans rfl, (blk_cell BKBD.out 3).trans rfl⟩ (fun hHeld => ?_)
      clear hK K
      refine norm_ (a' := ?_) ?_ ?_
      rotate_left
      ·show Act.put _ (some 37) _ = _
       simp only [Act.put, sA_, sB_, sC_, i64_w, i32_w]
       rfl
      refine one_ (i := 3) (N := some 38) #[true, true, true, true, false] rfl rfl (by kernel_rfl) (by decide) (fun K hK => ?_)
      refine goes_ Tryd.func9 (by kernel_rfl) rfl #[.agg #[.int .i64 tBN, .int .i64 tBO, .int .i64 tBP, .slice Ao24 tBQ.length co24], .agg #[.int .i64 tBW, .int .i64 tBX, .int .i64 tBY, .slice Ao33 tBZ.length co33]] (by rfl) rfl rfl argS ?_
      with_reducible refine (laws_eqBoard.calls kj10 tBN tBO tBP _ _ tBQ tBW tBX tBY _ _ tBZ true _ ?side1 ?side2 ?side3 ?side4 A29.out).mono ?_
      (case side1 => exact Kd.C_up (Kd.R_reads' HO_BU003.out).2.2)
      (case side2 => exact (Kd.R_reads' HO_BU003.out).2.1)
      (case side3 => exact Kd.C_up (Kd.R_reads' HOC1.out).2.2)
      (case side4 => exact (Kd.R_reads' HOC1.out).2.1)
      rintro e w34 ⟨rfl, hb⟩
      refine ⟨_, rfl, ?_⟩
      have n0_ := Am (Kd.R_below (Kd.R_up HO_BU003.out) hb)
      have n1_ := Am (Kd.R_below (Kd.R_up HOC1.out) hb)
      have n2_ := Am (blk_below (blk_up BKBD.out) hb)
      have n3_ := Am (blk_below (blk_up BKBT.out) hb)
      have n4_ := Am (below_step belS hb)
      clear HO_BU003
      clear HOC1
      clear BKBD
      clear BKBT
      clear HB
      have HO_BU003 := n0_
      have HOC1 := n1_
      have BKBD := n2_
      have BKBT := n3_
      have HB := n4_
      clear n0_ n1_ n2_ n3_ n4_
      (try clear hb)
      (try clear hb2)
      (try clear hk)
      (try clear hi)
      refine hK.out _ _ ⟨(blk_cell BKBT.out 0).trans rfl, (blk_cell BKBT.out 1).trans rfl, (blk_cell BKBT.out 2).trans rfl, (blk_cell BKBT.out 3).trans rfl, (blk_cell BKBD.out 0).trans rfl, (blk_cell BKBD.out 1).trans rfl, (blk_cell BKBD.out 2).trans rfl, (blk_cell BKBD.out 3).trans rfl⟩ (fun hHeld => ?_)
      clear hK K
      refine norm_ (a' := ?_) ?_ ?_
      rotate_left
      ·show Act.put _ (some 38) _ = _
       simp only [Act.put, sA_, sB_, sC_, i64_w, i32_w]
       rfl
      refine pure_ (i := 4) (N := some 39) (v := ?_) (a' := ?_) #[true, true, true, true, true] rfl rfl (by kernel_rfl) (fun _ _ _ h => h) (Or.inl ⟨by rfl, ?_⟩) ?_ ?_
      rotate_left
      ·intro w'
       go_simp
       with_reducible rfl
      rotate_left
      ·simp only [Act.put, sA_, sB_, sC_, i64_w, i32_w]
       rfl
      refine done_ (by kernel_rfl) ?_
      try go_wp2
      go_ret
      exact ⟨rfE, by exact belS⟩
     ·replace c30 := Bool.eq_false_iff.mpr c30
      subst c30
      have H1 : (some false) = some r := by rw [if_neg (show ¬ (false = true) by decide)] at H; exact H
      clear H
      have H := H1
      clear H1
      obtain rfl := Option.some.inj H
      try go_wp2
      have n0_ := Am (Kd.R_drew HO_BU003.out)
      have n1_ := Am (blk_drew BKBD.out)
      have n2_ := Am (blk_drew BKBT.out)
      have n3_ := Am (below_drew1 HB.out)
      clear HO_BU003
      clear BKBD
      clear BKBT
      clear HB
      have HO_BU003 := n0_
      have BKBD := n1_
      have BKBT := n2_
      have HB := n3_
      clear n0_ n1_ n2_ n3_
      refine start_ (n := 5) (S := fun w' => w'.cell? ⟨gbBT, 0, none⟩ = some (.int .i64 tBN) ∧ w'.cell? ⟨gbBT, 1, none⟩ = some (.int .i64 tBO) ∧ w'.cell? ⟨gbBT, 2, none⟩ = some (.int .i64 tBP) ∧ w'.cell? ⟨gbBT, 3, none⟩ = some (.slice Ao24 tBQ.length co24) ∧ w'.cell? ⟨gbBD, 0, none⟩ = some (.int .i64 a0_0) ∧ w'.cell? ⟨gbBD, 1, none⟩ = some (.int .i64 a0_1) ∧ w'.cell? ⟨gbBD, 2, none⟩ = some (.int .i64 a0_2) ∧ w'.cell? ⟨gbBD, 3, none⟩ = some (.slice A0_3 l0_3.length c0_3)) (ds := []) #[false, false, false, false, false] (by kernel_rfl) rfl rfl ⟨(blk_cell BKBT.out 0).trans rfl, (blk_cell BKBT.out 1).trans rfl, (blk_cell BKBT.out 2).trans rfl, (blk_cell BKBT.out 3).trans rfl, (blk_cell BKBD.out 0).trans rfl, (blk_cell BKBD.out 1).trans rfl, (blk_cell BKBD.out 2).trans rfl, (blk_cell BKBD.out 3).trans rfl⟩ (fun hHeld => ?_)
      generalize wc.drew = w35 at HO_BU003 BKBD BKBT HB hHeld ⊢
      refine take_ (i := 0) (N := some 35) (v := ?_) (a' := ?_) #[true, false, false, false, false] rfl rfl (by kernel_rfl) (fun _ _ _ h => h) (Or.inl ⟨by rfl, ?_⟩) hHeld ?_ ?_
      rotate_left
      ·rintro w' ⟨s0, s1, s2, s3, s4, s5, s6, s7⟩
       go_simp
       with_reducible rfl
      rotate_left
      ·simp only [Act.put, sA_, sB_, sC_, i64_w, i32_w]
       rfl
      refine take_ (i := 1) (N := some 36) (v := ?_) (a' := ?_) #[true, true, false, false, false] rfl rfl (by kernel_rfl) (fun _ _ _ h => h) (Or.inl ⟨by rfl, ?_⟩) hHeld ?_ ?_
      rotate_left
      ·rintro w' ⟨s0, s1, s2, s3, s4, s5, s6, s7⟩
       go_simp
       with_reducible rfl
      rotate_left
      ·simp only [Act.put, sA_, sB_, sC_, i64_w, i32_w]
       rfl
      refine one_ (i := 2) (N := some 37) #[true, true, true, false, false] rfl rfl (by kernel_rfl) (by decide) (fun K hK => ?_)
      refine goes_ Tryd.func19 (by kernel_rfl) rfl #[.agg #[.int .i64 a0_0, .int .i64 a0_1, .int .i64 a0_2, .slice A0_3 l0_3.length c0_3]] (by rfl) rfl rfl argS ?_
      with_reducible refine (laws_toBoard.calls kj10 a0_0 a0_1 a0_2 _ _ l0_3 tBW tBX tBY tBZ _ ?side1 ?side2 A28.out).mono ?_
      (case side1 => exact Kd.C_up (Kd.C_below HR0_3.out HB.out))
      (case side2 => exact HC0_3.out)
      rintro e w36 ⟨vC0, rfl, ho0, hb⟩
      refine ⟨_, rfl, ?_⟩
      have n0_ := Am (Kd.R_elder' (Kd.R_up HO_BU003.out) (Kd.R_base ho0) hb)
      have n1_ := Am (Kd.R_lower (Kd.R_new' ho0 (Kd.R_lt (Kd.R_up HO_BU003.out))) (below_size belS))
      have n2_ := Am (blk_below (blk_up BKBD.out) hb)
      have n3_ := Am (blk_below (blk_up BKBT.out) hb)
      have n4_ := Am (below_step belS hb)
      clear HO_BU003
      clear BKBD
      clear BKBT
      clear HB
      have HO_BU003 := n0_
      have HOC1 := n1_
      have BKBD := n2_
      have BKBT := n3_
      have HB := n4_
      clear n0_ n1_ n2_ n3_ n4_
      (try clear hb)
      (try clear hb2)
      (try clear hk)
      (try clear hi)
      (try clear ho0)
      obtain ⟨Ao37, co37, eo37⟩ := Kd.R_slice HOC1.out
      (first | subst eo37 | (injection eo37 with f1_ f2_ f3_; have f4_ := f1_.symm; have f5_ := f3_.symm; clear f1_ f2_ f3_; subst f4_; subst f5_))
      refine hK.out _ _ ⟨(blk_cell BKBT.out 0).trans rfl, (blk_cell BKBT.out 1).trans rfl, (blk_cell BKBT.out 2).trans rfl, (blk_cell BKBT.out 3).trans rfl, (blk_cell BKBD.out 0).trans rfl, (blk_cell BKBD.out 1).trans rfl, (blk_cell BKBD.out 2).trans rfl, (blk_cell BKBD.out 3).trans rfl⟩ (fun hHeld => ?_)
      clear hK K
      refine norm_ (a' := ?_) ?_ ?_
      rotate_left
      ·show Act.put _ (some 37) _ = _
       simp only [Act.put, sA_, sB_, sC_, i64_w, i32_w]
       rfl
      refine one_ (i := 3) (N := some 38) #[true, true, true, true, false] rfl rfl (by kernel_rfl) (by decide) (fun K hK => ?_)
      refine goes_ Tryd.func9 (by kernel_rfl) rfl #[.agg #[.int .i64 tBN, .int .i64 tBO, .int .i64 tBP, .slice Ao24 tBQ.length co24], .agg #[.int .i64 tBW, .int .i64 tBX, .int .i64 tBY, .slice Ao37 tBZ.length co37]] (by rfl) rfl rfl argS ?_
      with_reducible refine (laws_eqBoard.calls kj10 tBN tBO tBP _ _ tBQ tBW tBX tBY _ _ tBZ false _ ?side1 ?side2 ?side3 ?side4 A29.out).mono ?_
      (case side1 => exact Kd.C_up (Kd.R_reads' HO_BU003.out).2.2)
      (case side2 => exact (Kd.R_reads' HO_BU003.out).2.1)
      (case side3 => exact Kd.C_up (Kd.R_reads' HOC1.out).2.2)
      (case side4 => exact (Kd.R_reads' HOC1.out).2.1)
      rintro e w38 ⟨rfl, hb⟩
      refine ⟨_, rfl, ?_⟩
      have n0_ := Am (Kd.R_below (Kd.R_up HO_BU003.out) hb)
      have n1_ := Am (Kd.R_below (Kd.R_up HOC1.out) hb)
      have n2_ := Am (blk_below (blk_up BKBD.out) hb)
      have n3_ := Am (blk_below (blk_up BKBT.out) hb)
      have n4_ := Am (below_step belS hb)
      clear HO_BU003
      clear HOC1
      clear BKBD
      clear BKBT
      clear HB
      have HO_BU003 := n0_
      have HOC1 := n1_
      have BKBD := n2_
      have BKBT := n3_
      have HB := n4_
      clear n0_ n1_ n2_ n3_ n4_
      (try clear hb)
      (try clear hb2)
      (try clear hk)
      (try clear hi)
      refine hK.out _ _ ⟨(blk_cell BKBT.out 0).trans rfl, (blk_cell BKBT.out 1).trans rfl, (blk_cell BKBT.out 2).trans rfl, (blk_cell BKBT.out 3).trans rfl, (blk_cell BKBD.out 0).trans rfl, (blk_cell BKBD.out 1).trans rfl, (blk_cell BKBD.out 2).trans rfl, (blk_cell BKBD.out 3).trans rfl⟩ (fun hHeld => ?_)
      clear hK K
      refine norm_ (a' := ?_) ?_ ?_
      rotate_left
      ·show Act.put _ (some 38) _ = _
       simp only [Act.put, sA_, sB_, sC_, i64_w, i32_w]
       rfl
      refine pure_ (i := 4) (N := some 39) (v := ?_) (a' := ?_) #[true, true, true, true, true] rfl rfl (by kernel_rfl) (fun _ _ _ h => h) (Or.inl ⟨by rfl, ?_⟩) ?_ ?_
      rotate_left
      ·intro w'
       go_simp
       with_reducible rfl
      rotate_left
      ·simp only [Act.put, sA_, sB_, sC_, i64_w, i32_w]
       rfl
      refine done_ (by kernel_rfl) ?_
      try go_wp2
      go_ret
      exact ⟨rfE, by exact belS⟩

end Go.Proofs.YtnbleinhabllnaaDoor.Pr
