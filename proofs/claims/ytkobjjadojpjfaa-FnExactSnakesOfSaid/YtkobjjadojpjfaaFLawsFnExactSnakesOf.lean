-- A text of the machine side, written by wip/gen.py of this repo out of the translation. Not trusted: Lean checks it.
import Derived.Test.YtkobjjadojpjfaaF0
import Derived.Test.YtkobjjadojpjfaaFGA
import Derived.Test.YtkobjjadojpjfaaFGH
import Derived.Test.YtkobjjadojpjfaaFGM
import Derived.Test.YtkobjjadojpjfaaFImplSnakesOf
import Derived.Test.YtkobjjadojpjfaaFSpecSnakesOf
namespace Go.Proofs.Ytkobjjadojpjfaa.Pr
open Go.RowKit Go.Proofs.YtkobjjadojpjfaaW.PrintWords Go.Proofs.YtkobjjadojpjfaaW.PrintLast Go.Proofs.YtkobjjadojpjfaaW.PrintMore
attribute [local go_sem] max2_int min2_int max_two min_two max_three min_three max_four min_four   -- for this text's walks alone
set_option linter.unusedVariables false
set_option linter.unusedSimpArgs false

/-! ### laws_FnExactSnakesOf: function 9 -/
mutual
def laws_FnExactSnakesOf.j0 : Nat → List (S27) → Bool → List (S27) → Bool → Bool → Int → Int → Int → List (S82) → Int → Int → Int → List (S27) → Option (Bool)
 | 0, _, _, _, _, _, _, _, _, _, _, _, _, _ => none
 | k + 1, x4, x5, x7, x8, x40, xBE000, xBE001, xBE002, xBE003, xBW000, xBW001, xBW002, xBW003 => if x40 = true then (some false) else ((laws_toBoard.f k xBE000 xBE001 xBE002 xBE003).bind fun btC1 => ((laws_eqBoard.f k xBW000 xBW001 xBW002 xBW003 btC1.1 btC1.2.1 btC1.2.2.1 btC1.2.2.2).bind fun tC7 => (if tC7 = true then ((laws_markBoard.f k xBW000 xBW001 xBW002 xBW003 1).bind fun btC8 => (if btC8.1 < 0 then (laws_FnExactSnakesOf.j1 k x4 x5 x7 true xBE000 xBE001 xBE002 xBE003) else ((laws_eqJumpS.f k x7 x4).bind fun tCa => (if tCa = true then (laws_FnExactSnakesOf.j1 k x4 x5 x7 (x8 != x5) xBE000 xBE001 xBE002 xBE003) else (laws_FnExactSnakesOf.j1 k x4 x5 x7 true xBE000 xBE001 xBE002 xBE003))))) else (some false))))
def laws_FnExactSnakesOf.j1 : Nat → List (S27) → Bool → List (S27) → Bool → Int → Int → Int → List (S82) → Option (Bool)
 | 0, _, _, _, _, _, _, _, _ => none
 | k + 1, x4, x5, x7, x61, xBE000, xBE001, xBE002, xBE003 => if x61 = true then (some false) else ((laws_markJumpS.f k x7 1).bind fun btCb => ((laws_heldJumpS.f k btCb.2 1).bind fun tCd => (if tCd < 0 then (some false) else (if tCd = btCb.1 then ((laws_toBoard.f k xBE000 xBE001 xBE002 xBE003).bind fun btCe => ((impl_SnakesOf.f k btCe.1 btCe.2.1 btCe.2.2.1 btCe.2.2.2).bind fun btCk => ((laws_eqJumpS.f k btCk.1 x4).bind fun tCo => (if tCo = true then (laws_FnExactSnakesOf.j2 k btCb.2 btCb.1 (btCk.2 != x5)) else (laws_FnExactSnakesOf.j2 k btCb.2 btCb.1 true))))) else (some false)))))
def laws_FnExactSnakesOf.j2 : Nat → List (S27) → Int → Bool → Option (Bool)
 | 0, _, _, _ => none
 | k + 1, x7, x10, x87 => if x87 = true then (some false) else ((laws_heldJumpS.f k x7 1).bind fun tCp => (if tCp < 0 then (some false) else (if tCp = x10 then (some true) else (some false))))
end
def laws_FnExactSnakesOf.f (k : Nat) (a0_0 : Int) (a0_1 : Int) (a0_2 : Int) (l0_3 : List (S82)) : Option (Bool) := (laws_szBoard.f a0_0 a0_1 a0_2 l0_3 1048576).bind fun tBE => (if tBE < 0 then (some true) else ((laws_toBoard.f k a0_0 a0_1 a0_2 l0_3).bind fun btBF => ((spec_SnakesOf.f k btBF.1 btBF.2.1 btBF.2.2.1 btBF.2.2.2).bind fun btBL => ((laws_toBoard.f k a0_0 a0_1 a0_2 l0_3).bind fun btBP => ((impl_SnakesOf.f k btBP.1 btBP.2.1 btBP.2.2.1 btBP.2.2.2).bind fun btBW => ((laws_eqJumpS.f k btBW.1 btBL.1).bind fun tC0 => (if tC0 = true then (laws_FnExactSnakesOf.j0 k btBL.1 btBL.2 btBW.1 btBW.2 (btBW.2 != btBL.2) a0_0 a0_1 a0_2 l0_3 btBP.1 btBP.2.1 btBP.2.2.1 btBP.2.2.2) else (laws_FnExactSnakesOf.j0 k btBL.1 btBL.2 btBW.1 btBW.2 true a0_0 a0_1 a0_2 l0_3 btBP.1 btBP.2.1 btBP.2.2.1 btBP.2.2.2))))))))
set_option maxHeartbeats 8000000 in
set_option maxRecDepth 100000 in
theorem laws_FnExactSnakesOf.calls (k : Nat) (a0_0 : Int) (a0_1 : Int) (a0_2 : Int) (A0_3 : Option Addr) (c0_3 : Nat) (l0_3 : List (S82)) (r : Bool) (w : World) (hr0_3 : Kd.C k82 w A0_3 l0_3.length l0_3) (hc0_3 : l0_3.length ≤ c0_3) (h : laws_FnExactSnakesOf.f k a0_0 a0_1 a0_2 l0_3 = some r) :
  Calls Try.prog 9 #[.agg #[.int .i64 a0_0, .int .i64 a0_1, .int .i64 a0_2, .slice A0_3 l0_3.length c0_3]] w fun e w' => e = .returned (.bool r) ∧ Below w.heap.size w w' := by
 have hu24 := Try.underlying24
 have hu32 := Try.underlying32
 have HR0_3 := Aside0.mk hr0_3
 have HC0_3 := Aside0.mk hc0_3
 clear hr0_3 hc0_3
 have HB := Aside0.mk (Below.refl w.heap.size w)
 have H : ((laws_szBoard.f a0_0 a0_1 a0_2 l0_3 1048576).bind fun tBE => (if tBE < 0 then (some true) else ((laws_toBoard.f k a0_0 a0_1 a0_2 l0_3).bind fun btBF => ((spec_SnakesOf.f k btBF.1 btBF.2.1 btBF.2.2.1 btBF.2.2.2).bind fun btBL => ((laws_toBoard.f k a0_0 a0_1 a0_2 l0_3).bind fun btBP => ((impl_SnakesOf.f k btBP.1 btBP.2.1 btBP.2.2.1 btBP.2.2.2).bind fun btBW => ((laws_eqJumpS.f k btBW.1 btBL.1).bind fun tC0 => (if tC0 = true then (laws_FnExactSnakesOf.j0 k btBL.1 btBL.2 btBW.1 btBW.2 (btBW.2 != btBL.2) a0_0 a0_1 a0_2 l0_3 btBP.1 btBP.2.1 btBP.2.2.1 btBP.2.2.2) else (laws_FnExactSnakesOf.j0 k btBL.1 btBL.2 btBW.1 btBW.2 true a0_0 a0_1 a0_2 l0_3 btBP.1 btBP.2.1 btBP.2.2.1 btBP.2.2.2))))))))) = some r := h
 clear h
 replace H := Option.bind_eq_some_iff.mp H
 obtain ⟨tBE, A20, H⟩ := H
 replace H : (if tBE < 0 then (some true) else ((laws_toBoard.f k a0_0 a0_1 a0_2 l0_3).bind fun btBF => ((spec_SnakesOf.f k btBF.1 btBF.2.1 btBF.2.2.1 btBF.2.2.2).bind fun btBL => ((laws_toBoard.f k a0_0 a0_1 a0_2 l0_3).bind fun btBP => ((impl_SnakesOf.f k btBP.1 btBP.2.1 btBP.2.2.1 btBP.2.2.2).bind fun btBW => ((laws_eqJumpS.f k btBW.1 btBL.1).bind fun tC0 => (if tC0 = true then (laws_FnExactSnakesOf.j0 k btBL.1 btBL.2 btBW.1 btBW.2 (btBW.2 != btBL.2) a0_0 a0_1 a0_2 l0_3 btBP.1 btBP.2.1 btBP.2.2.1 btBP.2.2.2) else (laws_FnExactSnakesOf.j0 k btBL.1 btBL.2 btBW.1 btBW.2 true a0_0 a0_1 a0_2 l0_3 btBP.1 btBP.2.1 btBP.2.2.1 btBP.2.2.2)))))))) = some r := H
 have A2 := Aside0.mk A20
 clear A20
 by_cases c3 : tBE < 0
 ·rw [if_pos c3] at H
  have c3b0 : decide (tBE < 0) = true := decide_eq_true c3
  clear c3
  obtain rfl := Option.some.inj H
  go_enter Try.func9, Try.ntmps9
  go_wp2_with (first | ((with_reducible refine gate_dst (N := 1) rfl ?_); refine box_event ?hg (N := 1) ?hd (cs := #[.int .i64 a0_0, .int .i64 a0_1, .int .i64 a0_2, .slice A0_3 l0_3.length c0_3]) (t := 24) ?hr ?_; (case hd => rfl); (case hg => rfl); (case hr => first | (go_simp; done) | (go_simp; rfl)); intro gbBD hg w4 hbox hb; have n0_ := Aside0.mk (below_step belS hb); have n1_ := Aside0.mk (hbox); have n2_ := Aside0.mk ((by rw [hg]; exact (below_size belS) : w.heap.size ≤ gbBD)); have n3_ := n2_; clear HB; have HB := n0_; have BKBD := n1_; have GWBD := n2_; have GEBD := n3_; clear n0_ n1_ n2_ n3_; clear hb hbox hg; obtain ⟨hcz5_0, hcz5_1, hcz5_2, hcz5_3, hfz5_0, hfz5_1, hfz5_2, hfz5_3⟩ := blk4 BKBD.out) | ((with_reducible refine gate_callee (f := 37) rfl ?_); refine goesL_ (some 16) rfl rfl Try.func37 (by kernel_rfl) rfl #[.agg #[.int .i64 a0_0, .int .i64 a0_1, .int .i64 a0_2, .slice A0_3 l0_3.length c0_3], .int .i64 1048576] rfl argS ?_; (with_reducible refine (laws_szBoard.calls a0_0 a0_1 a0_2 _ _ l0_3 1048576 tBE _ ?side1 ?side2 A2.out).mono ?_); (case side1 => exact Kd.C_up (Kd.C_below HR0_3.out HB.out)); (case side2 => exact HC0_3.out); rintro e w6 ⟨rfl, hb⟩; refine ⟨_, rfl, ?_⟩; have n0_ := Aside0.mk (blk_below (blk_up BKBD.out) hb); have n1_ := Aside0.mk (below_step belS hb); clear BKBD; clear HB; have BKBD := n0_; have HB := n1_; clear n0_ n1_; (try clear hb); (try clear hb2); (try clear hk); (try clear hi)))
  go_ret
  exact ⟨by first | rfl | (simp [errW_none, errW_some] <;> rfl) | (simp [*, errW_none, errW_some] <;> rfl), by exact belS⟩
 ·rw [if_neg c3] at H
  have c3b0 : decide (tBE < 0) = false := decide_eq_false c3
  clear c3
  replace H := Option.bind_eq_some_iff.mp H
  obtain ⟨⟨tBF, tBG, tBH, tBI⟩, A70, H⟩ := H
  replace H : ((spec_SnakesOf.f k tBF tBG tBH tBI).bind fun btBL => ((laws_toBoard.f k a0_0 a0_1 a0_2 l0_3).bind fun btBP => ((impl_SnakesOf.f k btBP.1 btBP.2.1 btBP.2.2.1 btBP.2.2.2).bind fun btBW => ((laws_eqJumpS.f k btBW.1 btBL.1).bind fun tC0 => (if tC0 = true then (laws_FnExactSnakesOf.j0 k btBL.1 btBL.2 btBW.1 btBW.2 (btBW.2 != btBL.2) a0_0 a0_1 a0_2 l0_3 btBP.1 btBP.2.1 btBP.2.2.1 btBP.2.2.2) else (laws_FnExactSnakesOf.j0 k btBL.1 btBL.2 btBW.1 btBW.2 true a0_0 a0_1 a0_2 l0_3 btBP.1 btBP.2.1 btBP.2.2.1 btBP.2.2.2)))))) = some r := H
  have A7 := Aside0.mk A70
  clear A70
  replace H := Option.bind_eq_some_iff.mp H
  obtain ⟨⟨tBL, tBO⟩, A80, H⟩ := H
  replace H : ((laws_toBoard.f k a0_0 a0_1 a0_2 l0_3).bind fun btBP => ((impl_SnakesOf.f k btBP.1 btBP.2.1 btBP.2.2.1 btBP.2.2.2).bind fun btBW => ((laws_eqJumpS.f k btBW.1 tBL).bind fun tC0 => (if tC0 = true then (laws_FnExactSnakesOf.j0 k tBL tBO btBW.1 btBW.2 (btBW.2 != tBO) a0_0 a0_1 a0_2 l0_3 btBP.1 btBP.2.1 btBP.2.2.1 btBP.2.2.2) else (laws_FnExactSnakesOf.j0 k tBL tBO btBW.1 btBW.2 true a0_0 a0_1 a0_2 l0_3 btBP.1 btBP.2.1 btBP.2.2.1 btBP.2.2.2))))) = some r := H
  have A8 := Aside0.mk A80
  clear A80
  replace H := Option.bind_eq_some_iff.mp H
  obtain ⟨⟨tBP, tBQ, tBR, tBS⟩, A90, H⟩ := H
  replace H : ((impl_SnakesOf.f k tBP tBQ tBR tBS).bind fun btBW => ((laws_eqJumpS.f k btBW.1 tBL).bind fun tC0 => (if tC0 = true then (laws_FnExactSnakesOf.j0 k tBL tBO btBW.1 btBW.2 (btBW.2 != tBO) a0_0 a0_1 a0_2 l0_3 tBP tBQ tBR tBS) else (laws_FnExactSnakesOf.j0 k tBL tBO btBW.1 btBW.2 true a0_0 a0_1 a0_2 l0_3 tBP tBQ tBR tBS)))) = some r := H
  have A9 := Aside0.mk A90
  clear A90
  replace H := Option.bind_eq_some_iff.mp H
  obtain ⟨⟨tBW, tBZ⟩, A100, H⟩ := H
  replace H : ((laws_eqJumpS.f k tBW tBL).bind fun tC0 => (if tC0 = true then (laws_FnExactSnakesOf.j0 k tBL tBO tBW tBZ (tBZ != tBO) a0_0 a0_1 a0_2 l0_3 tBP tBQ tBR tBS) else (laws_FnExactSnakesOf.j0 k tBL tBO tBW tBZ true a0_0 a0_1 a0_2 l0_3 tBP tBQ tBR tBS))) = some r := H
  have A10 := Aside0.mk A100
  clear A100
  have HC11 := Aside0.mk H
  clear H
  go_enter Try.func9, Try.ntmps9
  go_upto_region 8 with (first | ((with_reducible refine gate_dst (N := 1) rfl ?_); refine box_event ?hg (N := 1) ?hd (cs := #[.int .i64 a0_0, .int .i64 a0_1, .int .i64 a0_2, .slice A0_3 l0_3.length c0_3]) (t := 24) ?hr ?_; (case hd => rfl); (case hg => rfl); (case hr => first | (go_simp; done) | (go_simp; rfl)); intro gbBD hg w12 hbox hb; have n0_ := Aside0.mk (below_step belS hb); have n1_ := Aside0.mk (hbox); have n2_ := Aside0.mk ((by rw [hg]; exact (below_size belS) : w.heap.size ≤ gbBD)); have n3_ := n2_; clear HB; have HB := n0_; have BKBD := n1_; have GWBD := n2_; have GEBD := n3_; clear n0_ n1_ n2_ n3_; clear hb hbox hg; obtain ⟨hcz13_0, hcz13_1, hcz13_2, hcz13_3, hfz13_0, hfz13_1, hfz13_2, hfz13_3⟩ := blk4 BKBD.out) | ((with_reducible refine gate_callee (f := 37) rfl ?_); refine goesL_ (some 16) rfl rfl Try.func37 (by kernel_rfl) rfl #[.agg #[.int .i64 a0_0, .int .i64 a0_1, .int .i64 a0_2, .slice A0_3 l0_3.length c0_3], .int .i64 1048576] rfl argS ?_; (with_reducible refine (laws_szBoard.calls a0_0 a0_1 a0_2 _ _ l0_3 1048576 tBE _ ?side1 ?side2 A2.out).mono ?_); (case side1 => exact Kd.C_up (Kd.C_below HR0_3.out HB.out)); (case side2 => exact HC0_3.out); rintro e w14 ⟨rfl, hb⟩; refine ⟨_, rfl, ?_⟩; have n0_ := Aside0.mk (blk_below (blk_up BKBD.out) hb); have n1_ := Aside0.mk (below_step belS hb); clear BKBD; clear HB; have BKBD := n0_; have HB := n1_; clear n0_ n1_; (try clear hb); (try clear hb2); (try clear hk); (try clear hi); obtain ⟨hcz15_0, hcz15_1, hcz15_2, hcz15_3, hfz15_0, hfz15_1, hfz15_2, hfz15_3⟩ := blk4 BKBD.out) | ((with_reducible refine gate_callee (f := 39) rfl ?_); refine goesL_ (some 21) rfl rfl Try.func39 (by kernel_rfl) rfl #[.agg #[.int .i64 a0_0, .int .i64 a0_1, .int .i64 a0_2, .slice A0_3 l0_3.length c0_3]] rfl argS ?_; (with_reducible refine (laws_toBoard.calls k a0_0 a0_1 a0_2 _ _ l0_3 tBF tBG tBH tBI _ ?side1 ?side2 A7.out).mono ?_); (case side1 => exact Kd.C_up (Kd.C_below HR0_3.out HB.out)); (case side2 => exact HC0_3.out); rintro e w16 ⟨vBJ, rfl, ho0, hb⟩; refine ⟨_, rfl, ?_⟩; have n0_ := Aside0.mk (Kd.R_lower ho0 (below_size belS)); have n1_ := Aside0.mk (blk_below (blk_up BKBD.out) hb); have n2_ := Aside0.mk (below_step belS hb); clear BKBD; clear HB; have HOBK := n0_; have BKBD := n1_; have HB := n2_; clear n0_ n1_ n2_; (try clear hb); (try clear hb2); (try clear hk); (try clear hi); (try clear ho0); obtain ⟨Ao17, co17, eo17⟩ := Kd.R_slice HOBK.out; subst eo17) | ((with_reducible refine gate_callee (f := 61) rfl ?_); refine goesL_ (some 22) rfl rfl Try.func61 (by kernel_rfl) rfl #[.agg #[.int .i64 tBF, .int .i64 tBG, .int .i64 tBH, .slice Ao17 tBI.length co17]] rfl argS ?_; (with_reducible refine (spec_SnakesOf.calls k tBF tBG tBH _ _ tBI tBL tBO _ ?side1 ?side2 A8.out).mono ?_); (case side1 => exact Kd.C_up (Kd.R_reads' HOBK.out).2.2); (case side2 => exact (Kd.R_reads' HOBK.out).2.1); rintro e w18 ⟨vBM, rfl, ho0, hb⟩; refine ⟨_, rfl, ?_⟩; have n0_ := Aside0.mk (Kd.R_elder' (Kd.R_up HOBK.out) (Kd.R_base ho0) hb); have n1_ := Aside0.mk (Kd.R_lower (Kd.R_new' ho0 (Kd.R_lt (Kd.R_up HOBK.out))) (below_size belS)); have n2_ := Aside0.mk (blk_below (blk_up BKBD.out) hb); have n3_ := Aside0.mk (below_step belS hb); clear HOBK; clear BKBD; clear HB; have HOBK := n0_; have HOBN := n1_; have BKBD := n2_; have HB := n3_; clear n0_ n1_ n2_ n3_; (try clear hb); (try clear hb2); (try clear hk); (try clear hi); (try clear ho0); obtain ⟨hcz19_0, hcz19_1, hcz19_2, hcz19_3, hfz19_0, hfz19_1, hfz19_2, hfz19_3⟩ := blk4 BKBD.out) | ((with_reducible refine gate_callee (f := 39) rfl ?_); refine goesL_ (some 26) rfl rfl Try.func39 (by kernel_rfl) rfl #[.agg #[.int .i64 a0_0, .int .i64 a0_1, .int .i64 a0_2, .slice A0_3 l0_3.length c0_3]] rfl argS ?_; (with_reducible refine (laws_toBoard.calls k a0_0 a0_1 a0_2 _ _ l0_3 tBP tBQ tBR tBS _ ?side1 ?side2 A9.out).mono ?_); (case side1 => exact Kd.C_up (Kd.C_below HR0_3.out HB.out)); (case side2 => exact HC0_3.out); rintro e w20 ⟨vBT, rfl, ho0, hb⟩; refine ⟨_, rfl, ?_⟩; have n0_ := Aside0.mk (Kd.R_elder' (Kd.R_up HOBK.out) (Kd.R_base ho0) hb); have n1_ := Aside0.mk (Kd.R_elder' (Kd.R_up HOBN.out) (Kd.R_base ho0) hb); have n2_ := Aside0.mk (Kd.R_lower (Kd.R_new' (Kd.R_new' ho0 (Kd.R_lt (Kd.R_up HOBK.out))) (Kd.R_lt (Kd.R_up HOBN.out))) (below_size belS)); have n3_ := Aside0.mk (blk_below (blk_up BKBD.out) hb); have n4_ := Aside0.mk (below_step belS hb); clear HOBK; clear HOBN; clear BKBD; clear HB; have HOBK := n0_; have HOBN := n1_; have HOBU := n2_; have BKBD := n3_; have HB := n4_; clear n0_ n1_ n2_ n3_ n4_; (try clear hb); (try clear hb2); (try clear hk); (try clear hi); (try clear ho0)) | ((with_reducible refine gate_dst (N := 6) rfl ?_); refine box_event ?hg (N := 6) ?hd (cs := #[.int .i64 0, .int .i64 0, .int .i64 0, .slice none 0 0]) (t := 32) ?hr ?_; (case hd => rfl); (case hg => rfl); (case hr => first | (go_simp; done) | (go_simp; rfl)); intro gbBV hg w21 hbox hb; have n0_ := Aside0.mk (Kd.R_below (Kd.R_up HOBK.out) hb); have n1_ := Aside0.mk (Kd.R_below (Kd.R_up HOBN.out) hb); have n2_ := Aside0.mk (Kd.R_below (Kd.R_up HOBU.out) hb); have n3_ := Aside0.mk (blk_below (blk_up BKBD.out) hb); have n4_ := Aside0.mk (below_step belS hb); have n5_ := Aside0.mk (hbox); have n6_ := Aside0.mk ((by rw [hg]; exact (below_size belS) : w.heap.size ≤ gbBV)); have n7_ := n6_; have n8_ := Aside0.mk ((by rw [hg]; exact Nat.ne_of_lt (blk_lt (blk_up BKBD.out)) : gbBD ≠ gbBV)); have n9_ := Aside0.mk ((by rw [hg]; exact Nat.ne_of_gt (blk_lt (blk_up BKBD.out)) : gbBV ≠ gbBD)); clear HOBK; clear HOBN; clear HOBU; clear BKBD; clear HB; have HOBK := n0_; have HOBN := n1_; have HOBU := n2_; have BKBD := n3_; have HB := n4_; have BKBV := n5_; have GWBV := n6_; have GEBV := n7_; have NBBD_BV := n8_; have NBBV_BD := n9_; clear n0_ n1_ n2_ n3_ n4_ n5_ n6_ n7_ n8_ n9_; clear hb hbox hg; have hnb22 := NBBV_BD.out; have hnc22 := NBBD_BV.out; obtain ⟨hcz23_0, hcz23_1, hcz23_2, hcz23_3, hfz23_0, hfz23_1, hfz23_2, hfz23_3⟩ := blk4 BKBV.out; obtain ⟨Ao24, co24, eo24⟩ := Kd.R_slice HOBU.out; subst eo24) | ((with_reducible refine gate_callee (f := 62) rfl ?_); refine goesL_ (some 29) rfl rfl Try.func62 (by kernel_rfl) rfl #[.agg #[.int .i64 tBP, .int .i64 tBQ, .int .i64 tBR, .slice Ao24 tBS.length co24]] rfl argS ?_; (with_reducible refine (impl_SnakesOf.calls k tBP tBQ tBR _ _ tBS tBW tBZ _ ?side1 ?side2 A10.out).mono ?_); (case side1 => refine (Kd.R_reads' (e := 27) (base := w.heap.size) (ok := fun k_ => ((True ∧ some k_ ≠ (.slice Ao17 tBI.length co17 : Value).ownBlock) ∧ some k_ ≠ (vBM : Value).ownBlock)) (n := tBS.length) (c := co24) ?_).2.2; exact (by (with_reducible repeat (first | apply Kd.R_alloc | apply Kd.R_drewN | apply Kd.R_drew)); exact (Kd.R_mono (Kd.R_far (p := ⟨gbBV, 3, none⟩) (Kd.R_far (p := ⟨gbBV, 2, none⟩) (Kd.R_far (p := ⟨gbBV, 1, none⟩) (Kd.R_far (p := ⟨gbBV, 0, none⟩) (Kd.R_types HOBU.out BKBV.out (by decide)) (fun _ hk => hk.2) (.int .i64 tBP)) (fun _ hk => hk.2) (.int .i64 tBQ)) (fun _ hk => hk.2) (.int .i64 tBR)) (fun _ hk => hk.2) (.slice Ao24 tBS.length co24)) (fun _ h_ => h_.1)))); (case side2 => exact (Kd.R_reads' HOBU.out).2.1); rintro e w25 ⟨vBX, rfl, ho0, hb⟩; refine ⟨_, rfl, ?_⟩; have n0_ := Aside0.mk (Kd.R_elder' (by (with_reducible repeat (first | apply Kd.R_alloc | apply Kd.R_drewN | apply Kd.R_drew)); exact (Kd.R_mono (Kd.R_far (p := ⟨gbBV, 3, none⟩) (Kd.R_far (p := ⟨gbBV, 2, none⟩) (Kd.R_far (p := ⟨gbBV, 1, none⟩) (Kd.R_far (p := ⟨gbBV, 0, none⟩) (Kd.R_types HOBK.out BKBV.out (by decide)) (fun _ hk => hk.2) (.int .i64 tBP)) (fun _ hk => hk.2) (.int .i64 tBQ)) (fun _ hk => hk.2) (.int .i64 tBR)) (fun _ hk => hk.2) (.slice Ao24 tBS.length co24)) (fun _ h_ => h_.1))) (Kd.R_base ho0) hb); have n1_ := Aside0.mk (Kd.R_elder' (by (with_reducible repeat (first | apply Kd.R_alloc | apply Kd.R_drewN | apply Kd.R_drew)); exact (Kd.R_mono (Kd.R_far (p := ⟨gbBV, 3, none⟩) (Kd.R_far (p := ⟨gbBV, 2, none⟩) (Kd.R_far (p := ⟨gbBV, 1, none⟩) (Kd.R_far (p := ⟨gbBV, 0, none⟩) (Kd.R_types HOBN.out BKBV.out (by decide)) (fun _ hk => hk.2) (.int .i64 tBP)) (fun _ hk => hk.2) (.int .i64 tBQ)) (fun _ hk => hk.2) (.int .i64 tBR)) (fun _ hk => hk.2) (.slice Ao24 tBS.length co24)) (fun _ h_ => h_.1))) (Kd.R_base ho0) hb); have n2_ := Aside0.mk (Kd.R_elder' (by (with_reducible repeat (first | apply Kd.R_alloc | apply Kd.R_drewN | apply Kd.R_drew)); exact (Kd.R_mono (Kd.R_far (p := ⟨gbBV, 3, none⟩) (Kd.R_far (p := ⟨gbBV, 2, none⟩) (Kd.R_far (p := ⟨gbBV, 1, none⟩) (Kd.R_far (p := ⟨gbBV, 0, none⟩) (Kd.R_types HOBU.out BKBV.out (by decide)) (fun _ hk => hk.2) (.int .i64 tBP)) (fun _ hk => hk.2) (.int .i64 tBQ)) (fun _ hk => hk.2) (.int .i64 tBR)) (fun _ hk => hk.2) (.slice Ao24 tBS.length co24)) (fun _ h_ => h_.1))) (Kd.R_base ho0) hb); have n3_ := Aside0.mk (Kd.R_lower (Kd.R_new' (Kd.R_new' (Kd.R_new' ho0 (Kd.R_lt (by (with_reducible repeat (first | apply Kd.R_alloc | apply Kd.R_drewN | apply Kd.R_drew)); exact (Kd.R_mono (Kd.R_far (p := ⟨gbBV, 3, none⟩) (Kd.R_far (p := ⟨gbBV, 2, none⟩) (Kd.R_far (p := ⟨gbBV, 1, none⟩) (Kd.R_far (p := ⟨gbBV, 0, none⟩) (Kd.R_types HOBK.out BKBV.out (by decide)) (fun _ hk => hk.2) (.int .i64 tBP)) (fun _ hk => hk.2) (.int .i64 tBQ)) (fun _ hk => hk.2) (.int .i64 tBR)) (fun _ hk => hk.2) (.slice Ao24 tBS.length co24)) (fun _ h_ => h_.1))))) (Kd.R_lt (by (with_reducible repeat (first | apply Kd.R_alloc | apply Kd.R_drewN | apply Kd.R_drew)); exact (Kd.R_mono (Kd.R_far (p := ⟨gbBV, 3, none⟩) (Kd.R_far (p := ⟨gbBV, 2, none⟩) (Kd.R_far (p := ⟨gbBV, 1, none⟩) (Kd.R_far (p := ⟨gbBV, 0, none⟩) (Kd.R_types HOBN.out BKBV.out (by decide)) (fun _ hk => hk.2) (.int .i64 tBP)) (fun _ hk => hk.2) (.int .i64 tBQ)) (fun _ hk => hk.2) (.int .i64 tBR)) (fun _ hk => hk.2) (.slice Ao24 tBS.length co24)) (fun _ h_ => h_.1))))) (Kd.R_lt (by (with_reducible repeat (first | apply Kd.R_alloc | apply Kd.R_drewN | apply Kd.R_drew)); exact (Kd.R_mono (Kd.R_far (p := ⟨gbBV, 3, none⟩) (Kd.R_far (p := ⟨gbBV, 2, none⟩) (Kd.R_far (p := ⟨gbBV, 1, none⟩) (Kd.R_far (p := ⟨gbBV, 0, none⟩) (Kd.R_types HOBU.out BKBV.out (by decide)) (fun _ hk => hk.2) (.int .i64 tBP)) (fun _ hk => hk.2) (.int .i64 tBQ)) (fun _ hk => hk.2) (.int .i64 tBR)) (fun _ hk => hk.2) (.slice Ao24 tBS.length co24)) (fun _ h_ => h_.1))))) (below_size belS)); have n4_ := Aside0.mk (blk_below (g := gbBD) (o := .cells #[.int .i64 a0_0, .int .i64 a0_1, .int .i64 a0_2, .slice A0_3 l0_3.length c0_3] 24 (0, 0)) (by (with_reducible repeat (first | refine blk_drewN ?_ _ | refine blk_drew ?_ | refine blk_alloc ?_ _)); refine blk_far ?_ NBBD_BV.out _; (with_reducible repeat (first | refine blk_drewN ?_ _ | refine blk_drew ?_ | refine blk_alloc ?_ _)); refine blk_far ?_ NBBD_BV.out _; (with_reducible repeat (first | refine blk_drewN ?_ _ | refine blk_drew ?_ | refine blk_alloc ?_ _)); refine blk_far ?_ NBBD_BV.out _; (with_reducible repeat (first | refine blk_drewN ?_ _ | refine blk_drew ?_ | refine blk_alloc ?_ _)); refine blk_far ?_ NBBD_BV.out _; (with_reducible repeat (first | refine blk_drewN ?_ _ | refine blk_drew ?_ | refine blk_alloc ?_ _)); exact BKBD.out) hb); have n5_ := Aside0.mk (blk_below (g := gbBV) (o := .cells #[.int .i64 tBP, .int .i64 tBQ, .int .i64 tBR, .slice Ao24 tBS.length co24] 32 (0, 0)) (by (with_reducible repeat (first | refine blk_drewN ?_ _ | refine blk_drew ?_ | refine blk_alloc ?_ _)); refine blk_put (cs := #[.int .i64 tBP, .int .i64 tBQ, .int .i64 tBR, .slice none 0 0]) ?_ 3 _ rfl; (with_reducible repeat (first | refine blk_drewN ?_ _ | refine blk_drew ?_ | refine blk_alloc ?_ _)); refine blk_put (cs := #[.int .i64 tBP, .int .i64 tBQ, .int .i64 0, .slice none 0 0]) ?_ 2 _ rfl; (with_reducible repeat (first | refine blk_drewN ?_ _ | refine blk_drew ?_ | refine blk_alloc ?_ _)); refine blk_put (cs := #[.int .i64 tBP, .int .i64 0, .int .i64 0, .slice none 0 0]) ?_ 1 _ rfl; (with_reducible repeat (first | refine blk_drewN ?_ _ | refine blk_drew ?_ | refine blk_alloc ?_ _)); refine blk_put (cs := #[.int .i64 0, .int .i64 0, .int .i64 0, .slice none 0 0]) ?_ 0 _ rfl; (with_reducible repeat (first | refine blk_drewN ?_ _ | refine blk_drew ?_ | refine blk_alloc ?_ _)); exact BKBV.out) hb); have n6_ := Aside0.mk (below_step belS hb); clear HOBK; clear HOBN; clear HOBU; clear BKBD; clear BKBV; clear HB; have HOBK := n0_; have HOBN := n1_; have HOBU := n2_; have HOBY := n3_; have BKBD := n4_; have BKBV := n5_; have HB := n6_; clear n0_ n1_ n2_ n3_ n4_ n5_ n6_; (try clear hb); (try clear hb2); (try clear hk); (try clear hi); (try clear ho0)))
  (try simp only [Act.put, List.setIfInBounds_toArray, List.set_cons_zero, List.set_cons_succ])
  go_cut [40] (fun v40 wc => ∃ (kq : Nat) (x40_10 : Bool), v40 = .bool x40_10 ∧ Aside0 (laws_FnExactSnakesOf.j0 kq tBL tBO tBW tBZ x40_10 a0_0 a0_1 a0_2 l0_3 tBP tBQ tBR tBS = some r) ∧ Aside0 (kq ≤ k) ∧ Aside0 (Kd.R k27 27 wc w.heap.size (fun k_ => some k_ ≠ (vBX : Value).ownBlock ∧ some k_ ≠ ((.slice Ao24 tBS.length co24) : Value).ownBlock) vBM tBL) ∧ Aside0 (Kd.R k27 27 wc w.heap.size (fun k_ => some k_ ≠ (vBM : Value).ownBlock ∧ some k_ ≠ ((.slice Ao24 tBS.length co24) : Value).ownBlock) vBX tBW) ∧ Aside0 (Kd.R k27 27 wc w.heap.size (fun k_ => some k_ ≠ (vBM : Value).ownBlock ∧ some k_ ≠ (vBX : Value).ownBlock) (.slice Ao24 tBS.length co24) tBS) ∧ Aside0 (wc.heap[gbBD]? = some (.cells #[.int .i64 a0_0, .int .i64 a0_1, .int .i64 a0_2, (.slice A0_3 l0_3.length c0_3)] 24 (0, 0))) ∧ Aside0 (wc.heap[gbBV]? = some (.cells #[.int .i64 tBP, .int .i64 tBQ, .int .i64 tBR, (.slice Ao24 tBS.length co24)] 32 (0, 0))) ∧ Aside0 (Below w.heap.size w wc))
  case first =>
   have H := HC11.out
   clear HC11
   replace H := Option.bind_eq_some_iff.mp H
   obtain ⟨tC0, A260, H⟩ := H
   replace H : (if tC0 = true then (laws_FnExactSnakesOf.j0 k tBL tBO tBW tBZ (tBZ != tBO) a0_0 a0_1 a0_2 l0_3 tBP tBQ tBR tBS) else (laws_FnExactSnakesOf.j0 k tBL tBO tBW tBZ true a0_0 a0_1 a0_2 l0_3 tBP tBQ tBR tBS)) = some r := H
   have A26 := Aside0.mk A260
   clear A260
   by_cases c27 : tC0 = true
   ·subst c27
    have H1 : (laws_FnExactSnakesOf.j0 k tBL tBO tBW tBZ (tBZ != tBO) a0_0 a0_1 a0_2 l0_3 tBP tBQ tBR tBS) = some r := by rw [if_pos rfl] at H; exact H
    clear H
    have H := H1
    clear H1
    have H' := Aside0.mk H
    clear H
    obtain ⟨Ao28, co28, eo28⟩ := Kd.R_slice HOBY.out
    subst eo28
    obtain ⟨Ao29, co29, eo29⟩ := Kd.R_slice HOBN.out
    subst eo29
    go_wp2_with (first | ((with_reducible refine gate_callee (f := 58) rfl ?_); refine goesL_ (some 34) rfl rfl Try.func58 (by kernel_rfl) rfl #[.slice Ao28 tBW.length co28, .slice Ao29 tBL.length co29] rfl argS ?_; (with_reducible refine (laws_eqJumpS.calls k _ _ tBW _ _ tBL true _ ?side1 ?side2 ?side3 ?side4 A26.out).mono ?_); (case side1 => exact Kd.C_up (Kd.R_reads' HOBY.out).2.2); (case side2 => exact (Kd.R_reads' HOBY.out).2.1); (case side3 => exact Kd.C_up (Kd.R_reads' HOBN.out).2.2); (case side4 => exact (Kd.R_reads' HOBN.out).2.1); rintro e w30 ⟨rfl, hb⟩; refine ⟨_, rfl, ?_⟩; have n0_ := Aside0.mk (Kd.R_below (Kd.R_up HOBK.out) hb); have n1_ := Aside0.mk (Kd.R_below (Kd.R_up HOBN.out) hb); have n2_ := Aside0.mk (Kd.R_below (Kd.R_up HOBU.out) hb); have n3_ := Aside0.mk (Kd.R_below (Kd.R_up HOBY.out) hb); have n4_ := Aside0.mk (blk_below (blk_up BKBD.out) hb); have n5_ := Aside0.mk (blk_below (blk_up BKBV.out) hb); have n6_ := Aside0.mk (below_step belS hb); clear HOBK; clear HOBN; clear HOBU; clear HOBY; clear BKBD; clear BKBV; clear HB; have HOBK := n0_; have HOBN := n1_; have HOBU := n2_; have HOBY := n3_; have BKBD := n4_; have BKBV := n5_; have HB := n6_; clear n0_ n1_ n2_ n3_ n4_ n5_ n6_; (try clear hb); (try clear hb2); (try clear hk); (try clear hi)))
    go_meet
    case rel => exact ⟨_, ((tBZ != tBO)), (by first | rfl | (simp; done) | (simp [*]; done)), H', ⟨by first | omega | exact Nat.le_refl _⟩, ⟨by (with_reducible repeat (first | apply Kd.R_alloc | apply Kd.R_drewN | apply Kd.R_drew)); exact Kd.R_mono HOBN.out (fun _ hk => ⟨hk.2, hk.1.2⟩)⟩, ⟨by (with_reducible repeat (first | apply Kd.R_alloc | apply Kd.R_drewN | apply Kd.R_drew)); exact Kd.R_mono HOBY.out (fun _ hk => ⟨hk.1.2, hk.2⟩)⟩, ⟨by (with_reducible repeat (first | apply Kd.R_alloc | apply Kd.R_drewN | apply Kd.R_drew)); exact Kd.R_mono HOBU.out (fun _ hk => ⟨hk.1.2, hk.2⟩)⟩, ⟨by (with_reducible repeat (first | refine blk_drewN ?_ _ | refine blk_drew ?_ | refine blk_alloc ?_ _)); exact BKBD.out⟩, ⟨by (with_reducible repeat (first | refine blk_drewN ?_ _ | refine blk_drew ?_ | refine blk_alloc ?_ _)); exact BKBV.out⟩, ⟨by exact belS⟩⟩
   ·replace c27 := Bool.eq_false_iff.mpr c27
    subst c27
    have H1 : (laws_FnExactSnakesOf.j0 k tBL tBO tBW tBZ true a0_0 a0_1 a0_2 l0_3 tBP tBQ tBR tBS) = some r := by rw [if_neg (show ¬ (false = true) by decide)] at H; exact H
    clear H
    have H := H1
    clear H1
    have H' := Aside0.mk H
    clear H
    obtain ⟨Ao31, co31, eo31⟩ := Kd.R_slice HOBY.out
    subst eo31
    obtain ⟨Ao32, co32, eo32⟩ := Kd.R_slice HOBN.out
    subst eo32
    go_wp2_with (first | ((with_reducible refine gate_callee (f := 58) rfl ?_); refine goesL_ (some 34) rfl rfl Try.func58 (by kernel_rfl) rfl #[.slice Ao31 tBW.length co31, .slice Ao32 tBL.length co32] rfl argS ?_; (with_reducible refine (laws_eqJumpS.calls k _ _ tBW _ _ tBL false _ ?side1 ?side2 ?side3 ?side4 A26.out).mono ?_); (case side1 => exact Kd.C_up (Kd.R_reads' HOBY.out).2.2); (case side2 => exact (Kd.R_reads' HOBY.out).2.1); (case side3 => exact Kd.C_up (Kd.R_reads' HOBN.out).2.2); (case side4 => exact (Kd.R_reads' HOBN.out).2.1); rintro e w33 ⟨rfl, hb⟩; refine ⟨_, rfl, ?_⟩; have n0_ := Aside0.mk (Kd.R_below (Kd.R_up HOBK.out) hb); have n1_ := Aside0.mk (Kd.R_below (Kd.R_up HOBN.out) hb); have n2_ := Aside0.mk (Kd.R_below (Kd.R_up HOBU.out) hb); have n3_ := Aside0.mk (Kd.R_below (Kd.R_up HOBY.out) hb); have n4_ := Aside0.mk (blk_below (blk_up BKBD.out) hb); have n5_ := Aside0.mk (blk_below (blk_up BKBV.out) hb); have n6_ := Aside0.mk (below_step belS hb); clear HOBK; clear HOBN; clear HOBU; clear HOBY; clear BKBD; clear BKBV; clear HB; have HOBK := n0_; have HOBN := n1_; have HOBU := n2_; have HOBY := n3_; have BKBD := n4_; have BKBV := n5_; have HB := n6_; clear n0_ n1_ n2_ n3_ n4_ n5_ n6_; (try clear hb); (try clear hb2); (try clear hk); (try clear hi)))
    go_meet
    case rel => exact ⟨_, (true), (by first | rfl | (simp; done) | (simp [*]; done)), H', ⟨by first | omega | exact Nat.le_refl _⟩, ⟨by (with_reducible repeat (first | apply Kd.R_alloc | apply Kd.R_drewN | apply Kd.R_drew)); exact Kd.R_mono HOBN.out (fun _ hk => ⟨hk.2, hk.1.2⟩)⟩, ⟨by (with_reducible repeat (first | apply Kd.R_alloc | apply Kd.R_drewN | apply Kd.R_drew)); exact Kd.R_mono HOBY.out (fun _ hk => ⟨hk.1.2, hk.2⟩)⟩, ⟨by (with_reducible repeat (first | apply Kd.R_alloc | apply Kd.R_drewN | apply Kd.R_drew)); exact Kd.R_mono HOBU.out (fun _ hk => ⟨hk.1.2, hk.2⟩)⟩, ⟨by (with_reducible repeat (first | refine blk_drewN ?_ _ | refine blk_drew ?_ | refine blk_alloc ?_ _)); exact BKBD.out⟩, ⟨by (with_reducible repeat (first | refine blk_drewN ?_ _ | refine blk_drew ?_ | refine blk_alloc ?_ _)); exact BKBV.out⟩, ⟨by exact belS⟩⟩
  case rest =>
   clear HC11
   try clear c2
   try clear p2
   try clear c3
   try clear c3b0
   try clear c5
   try clear c6
   try clear c9
   try clear c22
   try clear c27
   try clear hcz13_0 hcz13_1 hcz13_2 hcz13_3
   try clear hcz15_0 hcz15_1 hcz15_2 hcz15_3
   try clear hcz19_0 hcz19_1 hcz19_2 hcz19_3
   try clear hcz23_0 hcz23_1 hcz23_2 hcz23_3
   try clear hcz5_0 hcz5_1 hcz5_2 hcz5_3
   try clear hfz13_0 hfz13_1 hfz13_2 hfz13_3
   try clear hfz15_0 hfz15_1 hfz15_2 hfz15_3
   try clear hfz19_0 hfz19_1 hfz19_2 hfz19_3
   try clear hfz23_0 hfz23_1 hfz23_2 hfz23_3
   try clear hfz5_0 hfz5_1 hfz5_2 hfz5_3
   obtain ⟨kq, x40_10, rfl, HA, HJ10, HO_4, HO_7, HO_BW003, BKBD, BKBV, HB⟩ := hcut
   cases kq with
   | zero => exact absurd HA.out (by simp [laws_FnExactSnakesOf.j0])
   | succ kj10 =>
    have H := HA.out
    clear HA
    simp only [laws_FnExactSnakesOf.j0] at H
    by_cases c34 : x40_10 = true
    ·subst c34
     have H1 : (some false) = some r := by rw [if_pos rfl] at H; exact H
     clear H
     have H := H1
     clear H1
     obtain rfl := Option.some.inj H
     go_wp2
     go_ret
     exact ⟨by first | rfl | (simp [errW_none, errW_some] <;> rfl) | (simp [*, errW_none, errW_some] <;> rfl), by exact belS⟩
    ·replace c34 := Bool.eq_false_iff.mpr c34
     subst c34
     have H1 : ((laws_toBoard.f kj10 a0_0 a0_1 a0_2 l0_3).bind fun btC1 => ((laws_eqBoard.f kj10 tBP tBQ tBR tBS btC1.1 btC1.2.1 btC1.2.2.1 btC1.2.2.2).bind fun tC7 => (if tC7 = true then ((laws_markBoard.f kj10 tBP tBQ tBR tBS 1).bind fun btC8 => (if btC8.1 < 0 then (laws_FnExactSnakesOf.j1 kj10 tBL tBO tBW true a0_0 a0_1 a0_2 l0_3) else ((laws_eqJumpS.f kj10 tBW tBL).bind fun tCa => (if tCa = true then (laws_FnExactSnakesOf.j1 kj10 tBL tBO tBW (tBZ != tBO) a0_0 a0_1 a0_2 l0_3) else (laws_FnExactSnakesOf.j1 kj10 tBL tBO tBW true a0_0 a0_1 a0_2 l0_3))))) else (some false)))) = some r := by rw [if_neg (show ¬ (false = true) by decide)] at H; exact H
     clear H
     have H := H1
     clear H1
     replace H := Option.bind_eq_some_iff.mp H
     obtain ⟨⟨tC1, tC2, tC3, tC4⟩, A350, H⟩ := H
     replace H : ((laws_eqBoard.f kj10 tBP tBQ tBR tBS tC1 tC2 tC3 tC4).bind fun tC7 => (if tC7 = true then ((laws_markBoard.f kj10 tBP tBQ tBR tBS 1).bind fun btC8 => (if btC8.1 < 0 then (laws_FnExactSnakesOf.j1 kj10 tBL tBO tBW true a0_0 a0_1 a0_2 l0_3) else ((laws_eqJumpS.f kj10 tBW tBL).bind fun tCa => (if tCa = true then (laws_FnExactSnakesOf.j1 kj10 tBL tBO tBW (tBZ != tBO) a0_0 a0_1 a0_2 l0_3) else (laws_FnExactSnakesOf.j1 kj10 tBL tBO tBW true a0_0 a0_1 a0_2 l0_3))))) else (some false))) = some r := H
     have A35 := Aside0.mk A350
     clear A350
     replace H := Option.bind_eq_some_iff.mp H
     obtain ⟨tC7, A360, H⟩ := H
     replace H : (if tC7 = true then ((laws_markBoard.f kj10 tBP tBQ tBR tBS 1).bind fun btC8 => (if btC8.1 < 0 then (laws_FnExactSnakesOf.j1 kj10 tBL tBO tBW true a0_0 a0_1 a0_2 l0_3) else ((laws_eqJumpS.f kj10 tBW tBL).bind fun tCa => (if tCa = true then (laws_FnExactSnakesOf.j1 kj10 tBL tBO tBW (tBZ != tBO) a0_0 a0_1 a0_2 l0_3) else (laws_FnExactSnakesOf.j1 kj10 tBL tBO tBW true a0_0 a0_1 a0_2 l0_3))))) else (some false)) = some r := H
     have A36 := Aside0.mk A360
     clear A360
     by_cases c37 : tC7 = true
     ·subst c37
      have H1 : ((laws_markBoard.f kj10 tBP tBQ tBR tBS 1).bind fun btC8 => (if btC8.1 < 0 then (laws_FnExactSnakesOf.j1 kj10 tBL tBO tBW true a0_0 a0_1 a0_2 l0_3) else ((laws_eqJumpS.f kj10 tBW tBL).bind fun tCa => (if tCa = true then (laws_FnExactSnakesOf.j1 kj10 tBL tBO tBW (tBZ != tBO) a0_0 a0_1 a0_2 l0_3) else (laws_FnExactSnakesOf.j1 kj10 tBL tBO tBW true a0_0 a0_1 a0_2 l0_3))))) = some r := by rw [if_pos rfl] at H; exact H
      clear H
      have H := H1
      clear H1
      replace H := Option.bind_eq_some_iff.mp H
      obtain ⟨⟨tC8, tC9⟩, A380, H⟩ := H
      replace H : (if tC8 < 0 then (laws_FnExactSnakesOf.j1 kj10 tBL tBO tBW true a0_0 a0_1 a0_2 l0_3) else ((laws_eqJumpS.f kj10 tBW tBL).bind fun tCa => (if tCa = true then (laws_FnExactSnakesOf.j1 kj10 tBL tBO tBW (tBZ != tBO) a0_0 a0_1 a0_2 l0_3) else (laws_FnExactSnakesOf.j1 kj10 tBL tBO tBW true a0_0 a0_1 a0_2 l0_3)))) = some r := H
      have A38 := Aside0.mk A380
      clear A380
      have HC39 := Aside0.mk H
      clear H
      try go_wp2
      have n0_ := Aside0.mk (Kd.R_drew HO_4.out)
      have n1_ := Aside0.mk (Kd.R_drew HO_7.out)
      have n2_ := Aside0.mk (Kd.R_drew HO_BW003.out)
      have n3_ := Aside0.mk (blk_drew BKBD.out)
      have n4_ := Aside0.mk (blk_drew BKBV.out)
      have n5_ := Aside0.mk (below_drew1 HB.out)
      clear HO_4
      clear HO_7
      clear HO_BW003
      clear BKBD
      clear BKBV
      clear HB
      have HO_4 := n0_
      have HO_7 := n1_
      have HO_BW003 := n2_
      have BKBD := n3_
      have BKBV := n4_
      have HB := n5_
      clear n0_ n1_ n2_ n3_ n4_ n5_
      refine start_ (n := 5) (S := fun w' => w'.cell? ⟨gbBV, 0, none⟩ = some (.int .i64 tBP) ∧ w'.cell? ⟨gbBV, 1, none⟩ = some (.int .i64 tBQ) ∧ w'.cell? ⟨gbBV, 2, none⟩ = some (.int .i64 tBR) ∧ w'.cell? ⟨gbBV, 3, none⟩ = some (.slice Ao24 tBS.length co24) ∧ w'.cell? ⟨gbBD, 0, none⟩ = some (.int .i64 a0_0) ∧ w'.cell? ⟨gbBD, 1, none⟩ = some (.int .i64 a0_1) ∧ w'.cell? ⟨gbBD, 2, none⟩ = some (.int .i64 a0_2) ∧ w'.cell? ⟨gbBD, 3, none⟩ = some (.slice A0_3 l0_3.length c0_3)) (ds := []) #[false, false, false, false, false] (by kernel_rfl) rfl rfl ⟨(blk_cell BKBV.out 0).trans rfl, (blk_cell BKBV.out 1).trans rfl, (blk_cell BKBV.out 2).trans rfl, (blk_cell BKBV.out 3).trans rfl, (blk_cell BKBD.out 0).trans rfl, (blk_cell BKBD.out 1).trans rfl, (blk_cell BKBD.out 2).trans rfl, (blk_cell BKBD.out 3).trans rfl⟩ (fun hHeld => ?_)
      generalize wc.drew = w40 at HO_4 HO_7 HO_BW003 BKBD BKBV HB hHeld ⊢
      refine take_ (i := 0) (N := some 41) (v := ?_) (a' := ?_) #[true, false, false, false, false] rfl rfl (by kernel_rfl) (fun _ _ _ h => h) (Or.inl ⟨by rfl, ?_⟩) hHeld ?_ ?_
      rotate_left
      ·rintro w' ⟨s0, s1, s2, s3, s4, s5, s6, s7⟩
       go_simp
       with_reducible rfl
      rotate_left
      ·simp only [Act.put, List.setIfInBounds_toArray, List.set_cons_zero, List.set_cons_succ, i64_w, i32_w]
       rfl
      refine take_ (i := 1) (N := some 42) (v := ?_) (a' := ?_) #[true, true, false, false, false] rfl rfl (by kernel_rfl) (fun _ _ _ h => h) (Or.inl ⟨by rfl, ?_⟩) hHeld ?_ ?_
      rotate_left
      ·rintro w' ⟨s0, s1, s2, s3, s4, s5, s6, s7⟩
       go_simp
       with_reducible rfl
      rotate_left
      ·simp only [Act.put, List.setIfInBounds_toArray, List.set_cons_zero, List.set_cons_succ, i64_w, i32_w]
       rfl
      refine one_ (i := 2) (N := some 43) #[true, true, true, false, false] rfl rfl (by kernel_rfl) (by decide) (fun K hK => ?_)
      refine goes_ Try.func39 (by kernel_rfl) rfl #[.agg #[.int .i64 a0_0, .int .i64 a0_1, .int .i64 a0_2, .slice A0_3 l0_3.length c0_3]] (by rfl) rfl rfl argS ?_
      with_reducible refine (laws_toBoard.calls kj10 a0_0 a0_1 a0_2 _ _ l0_3 tC1 tC2 tC3 tC4 _ ?side1 ?side2 A35.out).mono ?_
      (case side1 => exact Kd.C_up (Kd.C_below HR0_3.out HB.out))
      (case side2 => exact HC0_3.out)
      rintro e w41 ⟨vC5, rfl, ho0, hb⟩
      refine ⟨_, rfl, ?_⟩
      have n0_ := Aside0.mk (Kd.R_elder' (Kd.R_up HO_4.out) (Kd.R_base ho0) hb)
      have n1_ := Aside0.mk (Kd.R_elder' (Kd.R_up HO_7.out) (Kd.R_base ho0) hb)
      have n2_ := Aside0.mk (Kd.R_elder' (Kd.R_up HO_BW003.out) (Kd.R_base ho0) hb)
      have n3_ := Aside0.mk (Kd.R_lower (Kd.R_new' (Kd.R_new' (Kd.R_new' ho0 (Kd.R_lt (Kd.R_up HO_4.out))) (Kd.R_lt (Kd.R_up HO_7.out))) (Kd.R_lt (Kd.R_up HO_BW003.out))) (below_size belS))
      have n4_ := Aside0.mk (blk_below (blk_up BKBD.out) hb)
      have n5_ := Aside0.mk (blk_below (blk_up BKBV.out) hb)
      have n6_ := Aside0.mk (below_step belS hb)
      clear HO_4
      clear HO_7
      clear HO_BW003
      clear BKBD
      clear BKBV
      clear HB
      have HO_4 := n0_
      have HO_7 := n1_
      have HO_BW003 := n2_
      have HOC6 := n3_
      have BKBD := n4_
      have BKBV := n5_
      have HB := n6_
      clear n0_ n1_ n2_ n3_ n4_ n5_ n6_
      (try clear hb)
      (try clear hb2)
      (try clear hk)
      (try clear hi)
      (try clear ho0)
      obtain ⟨Ao42, co42, eo42⟩ := Kd.R_slice HOC6.out
      (first | subst eo42 | (injection eo42 with f1_ f2_ f3_; have f4_ := f1_.symm; have f5_ := f3_.symm; clear f1_ f2_ f3_; subst f4_; subst f5_))
      refine hK.out _ _ ⟨(blk_cell BKBV.out 0).trans rfl, (blk_cell BKBV.out 1).trans rfl, (blk_cell BKBV.out 2).trans rfl, (blk_cell BKBV.out 3).trans rfl, (blk_cell BKBD.out 0).trans rfl, (blk_cell BKBD.out 1).trans rfl, (blk_cell BKBD.out 2).trans rfl, (blk_cell BKBD.out 3).trans rfl⟩ (fun hHeld => ?_)
      clear hK K
      refine norm_ (a' := ?_) ?_ ?_
      rotate_left
      ·show Act.put _ (some 43) _ = _
       simp only [Act.put, List.setIfInBounds_toArray, List.set_cons_zero, List.set_cons_succ, i64_w, i32_w]
       rfl
      refine one_ (i := 3) (N := some 44) #[true, true, true, true, false] rfl rfl (by kernel_rfl) (by decide) (fun K hK => ?_)
      refine goes_ Try.func42 (by kernel_rfl) rfl #[.agg #[.int .i64 tBP, .int .i64 tBQ, .int .i64 tBR, .slice Ao24 tBS.length co24], .agg #[.int .i64 tC1, .int .i64 tC2, .int .i64 tC3, .slice Ao42 tC4.length co42]] (by rfl) rfl rfl argS ?_
      with_reducible refine (laws_eqBoard.calls kj10 tBP tBQ tBR _ _ tBS tC1 tC2 tC3 _ _ tC4 true _ ?side1 ?side2 ?side3 ?side4 A36.out).mono ?_
      (case side1 => exact Kd.C_up (Kd.R_reads' HO_BW003.out).2.2)
      (case side2 => exact (Kd.R_reads' HO_BW003.out).2.1)
      (case side3 => exact Kd.C_up (Kd.R_reads' HOC6.out).2.2)
      (case side4 => exact (Kd.R_reads' HOC6.out).2.1)
      rintro e w43 ⟨rfl, hb⟩
      refine ⟨_, rfl, ?_⟩
      have n0_ := Aside0.mk (Kd.R_below (Kd.R_up HO_4.out) hb)
      have n1_ := Aside0.mk (Kd.R_below (Kd.R_up HO_7.out) hb)
      have n2_ := Aside0.mk (Kd.R_below (Kd.R_up HO_BW003.out) hb)
      have n3_ := Aside0.mk (Kd.R_below (Kd.R_up HOC6.out) hb)
      have n4_ := Aside0.mk (blk_below (blk_up BKBD.out) hb)
      have n5_ := Aside0.mk (blk_below (blk_up BKBV.out) hb)
      have n6_ := Aside0.mk (below_step belS hb)
      clear HO_4
      clear HO_7
      clear HO_BW003
      clear HOC6
      clear BKBD
      clear BKBV
      clear HB
      have HO_4 := n0_
      have HO_7 := n1_
      have HO_BW003 := n2_
      have HOC6 := n3_
      have BKBD := n4_
      have BKBV := n5_
      have HB := n6_
      clear n0_ n1_ n2_ n3_ n4_ n5_ n6_
      (try clear hb)
      (try clear hb2)
      (try clear hk)
      (try clear hi)
      refine hK.out _ _ ⟨(blk_cell BKBV.out 0).trans rfl, (blk_cell BKBV.out 1).trans rfl, (blk_cell BKBV.out 2).trans rfl, (blk_cell BKBV.out 3).trans rfl, (blk_cell BKBD.out 0).trans rfl, (blk_cell BKBD.out 1).trans rfl, (blk_cell BKBD.out 2).trans rfl, (blk_cell BKBD.out 3).trans rfl⟩ (fun hHeld => ?_)
      clear hK K
      refine norm_ (a' := ?_) ?_ ?_
      rotate_left
      ·show Act.put _ (some 44) _ = _
       simp only [Act.put, List.setIfInBounds_toArray, List.set_cons_zero, List.set_cons_succ, i64_w, i32_w]
       rfl
      refine pure_ (i := 4) (N := some 45) (v := ?_) (a' := ?_) #[true, true, true, true, true] rfl rfl (by kernel_rfl) (fun _ _ _ h => h) (Or.inl ⟨by rfl, ?_⟩) ?_ ?_
      rotate_left
      ·intro w'
       go_simp
       with_reducible rfl
      rotate_left
      ·simp only [Act.put, List.setIfInBounds_toArray, List.set_cons_zero, List.set_cons_succ, i64_w, i32_w]
       rfl
      refine done_ (by kernel_rfl) ?_
      have hnb44 := NBBV_BD.out
      have hnc44 := NBBD_BV.out
      obtain ⟨hcz45_0, hcz45_1, hcz45_2, hcz45_3, hfz45_0, hfz45_1, hfz45_2, hfz45_3⟩ := blk4 BKBV.out
      go_upto_region 14 with (first | ((with_reducible refine gate_callee (f := 47) rfl ?_); refine goesL_ (some 48) rfl rfl Try.func47 (by kernel_rfl) rfl #[.agg #[.int .i64 tBP, .int .i64 tBQ, .int .i64 tBR, .slice Ao24 tBS.length co24], .int .i64 1] rfl argS ?_; (with_reducible refine (laws_markBoard.calls kj10 tBP tBQ tBR (fun k_ => some k_ = (.slice Ao24 tBS.length co24 : Value).ownBlock) (.slice Ao24 tBS.length co24) tBS 1 tC8 tC9 w _ ?side1 ?side2 A38.out).mono ?_); (case side1 => exact belS); (case side2 => exact Kd.R_tight rfl HO_BW003.out); rintro e w46 ⟨rfl, hy0, hb, hkp⟩; refine ⟨_, rfl, ?_⟩; have n0_ := Aside0.mk (Kd.R_mono (ok' := fun k_ => some k_ ≠ (vBX : Value).ownBlock ∧ some k_ ≠ (.slice Ao24 tBS.length co24 : Value).ownBlock ∧ some k_ ≠ (.slice Ao42 tC4.length co42 : Value).ownBlock) (Kd.R_keptB (HO_4.out) hkp (fun k_ hk_ hs_ => (hk_.1.2) hs_)) (fun k_ hk_ => ⟨hk_.1.1.1, hk_.1.1.2, hk_.1.2⟩)); have n1_ := Aside0.mk (Kd.R_mono (ok' := fun k_ => some k_ ≠ (vBM : Value).ownBlock ∧ some k_ ≠ (.slice Ao24 tBS.length co24 : Value).ownBlock ∧ some k_ ≠ (.slice Ao42 tC4.length co42 : Value).ownBlock) (Kd.R_keptB (HO_7.out) hkp (fun k_ hk_ hs_ => (hk_.1.2) hs_)) (fun k_ hk_ => ⟨hk_.1.1.1, hk_.1.1.2, hk_.1.2⟩)); have n2_ := Aside0.mk (Kd.R_reok rfl hy0 (fun k_ e_ => HO_BW003.out.1 k_ e_)); have n3_ := Aside0.mk (blk_kept (blk_up BKBD.out) hkp (fun hs_ => (fun e_ => (Kd.R_ne HO_BW003.out BKBD.out (by decide)) e_) hs_)); have n4_ := Aside0.mk (blk_kept (blk_up BKBV.out) hkp (fun hs_ => (fun e_ => (Kd.R_ne HO_BW003.out BKBV.out (by decide)) e_) hs_)); have n5_ := Aside0.mk (Kd.R_mono (ok' := fun k_ => some k_ ≠ (vBM : Value).ownBlock ∧ some k_ ≠ (vBX : Value).ownBlock ∧ some k_ ≠ (.slice Ao24 tBS.length co24 : Value).ownBlock) (Kd.R_keptB (HOC6.out) hkp (fun k_ hk_ hs_ => (hk_.2) hs_)) (fun k_ hk_ => ⟨hk_.1.1.1.2, hk_.1.1.2, hk_.1.2⟩)); have n6_ := Aside0.mk (hb); clear HO_4; clear HO_7; clear HO_BW003; clear BKBD; clear BKBV; clear HOC6; clear HB; have HO_4 := n0_; have HO_7 := n1_; have HO_BW003 := n2_; have BKBD := n3_; have BKBV := n4_; have HOC6 := n5_; have HB := n6_; clear n0_ n1_ n2_ n3_ n4_ n5_ n6_; (try clear hb); (try clear hkp); (try clear hy0)))
      (try simp only [Act.put, List.setIfInBounds_toArray, List.set_cons_zero, List.set_cons_succ])
      go_cut [61] (fun v61 wc => ∃ (kq : Nat) (x61_38 : Bool), v61 = .bool x61_38 ∧ Aside0 (laws_FnExactSnakesOf.j1 kq tBL tBO tBW x61_38 a0_0 a0_1 a0_2 l0_3 = some r) ∧ Aside0 (kq ≤ kj10) ∧ Aside0 (Kd.R k27 27 wc w.heap.size (fun k_ => some k_ ≠ (vBX : Value).ownBlock ∧ some k_ ≠ ((.slice Ao24 tBS.length co24) : Value).ownBlock) vBM tBL) ∧ Aside0 (Kd.R k27 27 wc w.heap.size (fun k_ => some k_ ≠ (vBM : Value).ownBlock ∧ some k_ ≠ ((.slice Ao24 tBS.length co24) : Value).ownBlock) vBX tBW) ∧ Aside0 (Kd.R k27 27 wc w.heap.size (fun k_ => some k_ ≠ (vBM : Value).ownBlock ∧ some k_ ≠ (vBX : Value).ownBlock) (.slice Ao24 tBS.length co24) tC9) ∧ Aside0 (wc.heap[gbBD]? = some (.cells #[.int .i64 a0_0, .int .i64 a0_1, .int .i64 a0_2, (.slice A0_3 l0_3.length c0_3)] 24 (0, 0))) ∧ Aside0 (wc.heap[gbBV]? = some (.cells #[.int .i64 tBP, .int .i64 tBQ, .int .i64 tBR, (.slice Ao24 tBS.length co24)] 32 (0, 0))) ∧ Aside0 (Below w.heap.size w wc))
      case first =>
       have H := HC39.out
       clear HC39
       by_cases c47 : tC8 < 0
       ·rw [if_pos c47] at H
        have c47b0 : decide (tC8 < 0) = true := decide_eq_true c47
        clear c47
        (first | rw [c47b0] | (simp only [i64_w, i32_w]; rw [c47b0]) | skip)
        have H' := Aside0.mk H
        clear H
        go_wp2
        go_meet
        case rel => exact ⟨_, (true), (by first | rfl | (simp; done) | (simp [*]; done)), H', ⟨by have := HJ10.out; first | omega | exact Nat.le_refl _⟩, ⟨by (with_reducible repeat (first | apply Kd.R_alloc | apply Kd.R_drewN | apply Kd.R_drew)); exact Kd.R_mono HO_4.out (fun _ hk => ⟨hk.1, hk.2.1⟩)⟩, ⟨by (with_reducible repeat (first | apply Kd.R_alloc | apply Kd.R_drewN | apply Kd.R_drew)); exact Kd.R_mono HO_7.out (fun _ hk => ⟨hk.1, hk.2.1⟩)⟩, ⟨by (with_reducible repeat (first | apply Kd.R_alloc | apply Kd.R_drewN | apply Kd.R_drew)); exact Kd.R_mono HO_BW003.out (fun _ hk => ⟨hk.1.1, hk.1.2⟩)⟩, ⟨by (with_reducible repeat (first | refine blk_drewN ?_ _ | refine blk_drew ?_ | refine blk_alloc ?_ _)); exact BKBD.out⟩, ⟨by (with_reducible repeat (first | refine blk_drewN ?_ _ | refine blk_drew ?_ | refine blk_alloc ?_ _)); exact BKBV.out⟩, ⟨by exact belS⟩⟩
       ·rw [if_neg c47] at H
        have c47b0 : decide (tC8 < 0) = false := decide_eq_false c47
        clear c47
        (first | rw [c47b0] | (simp only [i64_w, i32_w]; rw [c47b0]) | skip)
        replace H := Option.bind_eq_some_iff.mp H
        obtain ⟨tCa, A480, H⟩ := H
        replace H : (if tCa = true then (laws_FnExactSnakesOf.j1 kj10 tBL tBO tBW (tBZ != tBO) a0_0 a0_1 a0_2 l0_3) else (laws_FnExactSnakesOf.j1 kj10 tBL tBO tBW true a0_0 a0_1 a0_2 l0_3)) = some r := H
        have A48 := Aside0.mk A480
        clear A480
        by_cases c49 : tCa = true
        ·subst c49
         have H1 : (laws_FnExactSnakesOf.j1 kj10 tBL tBO tBW (tBZ != tBO) a0_0 a0_1 a0_2 l0_3) = some r := by rw [if_pos rfl] at H; exact H
         clear H
         have H := H1
         clear H1
         have H' := Aside0.mk H
         clear H
         obtain ⟨Ao50, co50, eo50⟩ := Kd.R_slice HO_7.out
         subst eo50
         obtain ⟨Ao51, co51, eo51⟩ := Kd.R_slice HO_4.out
         subst eo51
         go_wp2_with (first | (go_at_call 58; (with_reducible refine (laws_eqJumpS.calls kj10 _ _ tBW _ _ tBL true _ ?side1 ?side2 ?side3 ?side4 A48.out).mono ?_); (case side1 => exact Kd.C_up (Kd.R_reads' HO_7.out).2.2); (case side2 => exact (Kd.R_reads' HO_7.out).2.1); (case side3 => exact Kd.C_up (Kd.R_reads' HO_4.out).2.2); (case side4 => exact (Kd.R_reads' HO_4.out).2.1); rintro e w52 ⟨rfl, hb⟩; have n0_ := Aside0.mk (Kd.R_below (Kd.R_up HO_4.out) hb); have n1_ := Aside0.mk (Kd.R_below (Kd.R_up HO_7.out) hb); have n2_ := Aside0.mk (Kd.R_below (Kd.R_up HO_BW003.out) hb); have n3_ := Aside0.mk (Kd.R_below (Kd.R_up HOC6.out) hb); have n4_ := Aside0.mk (blk_below (blk_up BKBD.out) hb); have n5_ := Aside0.mk (blk_below (blk_up BKBV.out) hb); have n6_ := Aside0.mk (below_step belS hb); clear HO_4; clear HO_7; clear HO_BW003; clear HOC6; clear BKBD; clear BKBV; clear HB; have HO_4 := n0_; have HO_7 := n1_; have HO_BW003 := n2_; have HOC6 := n3_; have BKBD := n4_; have BKBV := n5_; have HB := n6_; clear n0_ n1_ n2_ n3_ n4_ n5_ n6_; (try clear hb); (try clear hb2); (try clear hk); (try clear hi)))
         go_meet
         case rel => exact ⟨_, ((tBZ != tBO)), (by first | rfl | (simp; done) | (simp [*]; done)), H', ⟨by have := HJ10.out; first | omega | exact Nat.le_refl _⟩, ⟨by (with_reducible repeat (first | apply Kd.R_alloc | apply Kd.R_drewN | apply Kd.R_drew)); exact Kd.R_mono HO_4.out (fun _ hk => ⟨hk.1, hk.2.1⟩)⟩, ⟨by (with_reducible repeat (first | apply Kd.R_alloc | apply Kd.R_drewN | apply Kd.R_drew)); exact Kd.R_mono HO_7.out (fun _ hk => ⟨hk.1, hk.2.1⟩)⟩, ⟨by (with_reducible repeat (first | apply Kd.R_alloc | apply Kd.R_drewN | apply Kd.R_drew)); exact Kd.R_mono HO_BW003.out (fun _ hk => ⟨hk.1.1, hk.1.2⟩)⟩, ⟨by (with_reducible repeat (first | refine blk_drewN ?_ _ | refine blk_drew ?_ | refine blk_alloc ?_ _)); exact BKBD.out⟩, ⟨by (with_reducible repeat (first | refine blk_drewN ?_ _ | refine blk_drew ?_ | refine blk_alloc ?_ _)); exact BKBV.out⟩, ⟨by exact belS⟩⟩
        ·replace c49 := Bool.eq_false_iff.mpr c49
         subst c49
         have H1 : (laws_FnExactSnakesOf.j1 kj10 tBL tBO tBW true a0_0 a0_1 a0_2 l0_3) = some r := by rw [if_neg (show ¬ (false = true) by decide)] at H; exact H
         clear H
         have H := H1
         clear H1
         have H' := Aside0.mk H
         clear H
         obtain ⟨Ao53, co53, eo53⟩ := Kd.R_slice HO_7.out
         subst eo53
         obtain ⟨Ao54, co54, eo54⟩ := Kd.R_slice HO_4.out
         subst eo54
         go_wp2_with (first | (go_at_call 58; (with_reducible refine (laws_eqJumpS.calls kj10 _ _ tBW _ _ tBL false _ ?side1 ?side2 ?side3 ?side4 A48.out).mono ?_); (case side1 => exact Kd.C_up (Kd.R_reads' HO_7.out).2.2); (case side2 => exact (Kd.R_reads' HO_7.out).2.1); (case side3 => exact Kd.C_up (Kd.R_reads' HO_4.out).2.2); (case side4 => exact (Kd.R_reads' HO_4.out).2.1); rintro e w55 ⟨rfl, hb⟩; have n0_ := Aside0.mk (Kd.R_below (Kd.R_up HO_4.out) hb); have n1_ := Aside0.mk (Kd.R_below (Kd.R_up HO_7.out) hb); have n2_ := Aside0.mk (Kd.R_below (Kd.R_up HO_BW003.out) hb); have n3_ := Aside0.mk (Kd.R_below (Kd.R_up HOC6.out) hb); have n4_ := Aside0.mk (blk_below (blk_up BKBD.out) hb); have n5_ := Aside0.mk (blk_below (blk_up BKBV.out) hb); have n6_ := Aside0.mk (below_step belS hb); clear HO_4; clear HO_7; clear HO_BW003; clear HOC6; clear BKBD; clear BKBV; clear HB; have HO_4 := n0_; have HO_7 := n1_; have HO_BW003 := n2_; have HOC6 := n3_; have BKBD := n4_; have BKBV := n5_; have HB := n6_; clear n0_ n1_ n2_ n3_ n4_ n5_ n6_; (try clear hb); (try clear hb2); (try clear hk); (try clear hi)))
         go_meet
         case rel => exact ⟨_, (true), (by first | rfl | (simp; done) | (simp [*]; done)), H', ⟨by have := HJ10.out; first | omega | exact Nat.le_refl _⟩, ⟨by (with_reducible repeat (first | apply Kd.R_alloc | apply Kd.R_drewN | apply Kd.R_drew)); exact Kd.R_mono HO_4.out (fun _ hk => ⟨hk.1, hk.2.1⟩)⟩, ⟨by (with_reducible repeat (first | apply Kd.R_alloc | apply Kd.R_drewN | apply Kd.R_drew)); exact Kd.R_mono HO_7.out (fun _ hk => ⟨hk.1, hk.2.1⟩)⟩, ⟨by (with_reducible repeat (first | apply Kd.R_alloc | apply Kd.R_drewN | apply Kd.R_drew)); exact Kd.R_mono HO_BW003.out (fun _ hk => ⟨hk.1.1, hk.1.2⟩)⟩, ⟨by (with_reducible repeat (first | refine blk_drewN ?_ _ | refine blk_drew ?_ | refine blk_alloc ?_ _)); exact BKBD.out⟩, ⟨by (with_reducible repeat (first | refine blk_drewN ?_ _ | refine blk_drew ?_ | refine blk_alloc ?_ _)); exact BKBV.out⟩, ⟨by exact belS⟩⟩
      case rest =>
       clear HC39
       try clear c2
       try clear p2
       try clear c3
       try clear c3b0
       try clear c4
       try clear c5
       try clear c6
       try clear c9
       try clear c22
       try clear c27
       try clear c34
       try clear c37
       try clear c39
       try clear c42
       try clear c44
       try clear c47
       try clear c47b0
       try clear c49
       try clear hcz13_0 hcz13_1 hcz13_2 hcz13_3
       try clear hcz15_0 hcz15_1 hcz15_2 hcz15_3
       try clear hcz19_0 hcz19_1 hcz19_2 hcz19_3
       try clear hcz23_0 hcz23_1 hcz23_2 hcz23_3
       try clear hcz45_0 hcz45_1 hcz45_2 hcz45_3
       try clear hcz5_0 hcz5_1 hcz5_2 hcz5_3
       try clear hfz13_0 hfz13_1 hfz13_2 hfz13_3
       try clear hfz15_0 hfz15_1 hfz15_2 hfz15_3
       try clear hfz19_0 hfz19_1 hfz19_2 hfz19_3
       try clear hfz23_0 hfz23_1 hfz23_2 hfz23_3
       try clear hfz45_0 hfz45_1 hfz45_2 hfz45_3
       try clear hfz5_0 hfz5_1 hfz5_2 hfz5_3
       try clear p2
       obtain ⟨kq, x61_38, rfl, HA, HJ38, HO_4, HO_7, HO_BW003, BKBD, BKBV, HB⟩ := hcut
       have hlBW003_38 := (Kd.R_reads' HO_BW003.out).1
       rw [hlBW003_38] at HO_BW003
       (try simp only [hlBW003_38])
       (try simp only [hlBW003_38] at BKBD)
       (try simp only [hlBW003_38] at BKBV)
       (try simp only [hlBW003_38] at HO_4)
       (try simp only [hlBW003_38] at HO_7)
       cases kq with
       | zero => exact absurd HA.out (by simp [laws_FnExactSnakesOf.j1])
       | succ kj38 =>
        have H := HA.out
        clear HA
        simp only [laws_FnExactSnakesOf.j1] at H
        by_cases c56 : x61_38 = true
        ·subst c56
         have H1 : (some false) = some r := by rw [if_pos rfl] at H; exact H
         clear H
         have H := H1
         clear H1
         obtain rfl := Option.some.inj H
         go_wp2
         go_ret
         exact ⟨by first | rfl | (simp [errW_none, errW_some] <;> rfl) | (simp [*, errW_none, errW_some] <;> rfl), by exact belS⟩
        ·replace c56 := Bool.eq_false_iff.mpr c56
         subst c56
         have H1 : ((laws_markJumpS.f kj38 tBW 1).bind fun btCb => ((laws_heldJumpS.f kj38 btCb.2 1).bind fun tCd => (if tCd < 0 then (some false) else (if tCd = btCb.1 then ((laws_toBoard.f kj38 a0_0 a0_1 a0_2 l0_3).bind fun btCe => ((impl_SnakesOf.f kj38 btCe.1 btCe.2.1 btCe.2.2.1 btCe.2.2.2).bind fun btCk => ((laws_eqJumpS.f kj38 btCk.1 tBL).bind fun tCo => (if tCo = true then (laws_FnExactSnakesOf.j2 kj38 btCb.2 btCb.1 (btCk.2 != tBO)) else (laws_FnExactSnakesOf.j2 kj38 btCb.2 btCb.1 true))))) else (some false))))) = some r := by rw [if_neg (show ¬ (false = true) by decide)] at H; exact H
         clear H
         have H := H1
         clear H1
         replace H := Option.bind_eq_some_iff.mp H
         obtain ⟨⟨tCb, tCc⟩, A570, H⟩ := H
         replace H : ((laws_heldJumpS.f kj38 tCc 1).bind fun tCd => (if tCd < 0 then (some false) else (if tCd = tCb then ((laws_toBoard.f kj38 a0_0 a0_1 a0_2 l0_3).bind fun btCe => ((impl_SnakesOf.f kj38 btCe.1 btCe.2.1 btCe.2.2.1 btCe.2.2.2).bind fun btCk => ((laws_eqJumpS.f kj38 btCk.1 tBL).bind fun tCo => (if tCo = true then (laws_FnExactSnakesOf.j2 kj38 tCc tCb (btCk.2 != tBO)) else (laws_FnExactSnakesOf.j2 kj38 tCc tCb true))))) else (some false)))) = some r := H
         have A57 := Aside0.mk A570
         clear A570
         replace H := Option.bind_eq_some_iff.mp H
         obtain ⟨tCd, A580, H⟩ := H
         replace H : (if tCd < 0 then (some false) else (if tCd = tCb then ((laws_toBoard.f kj38 a0_0 a0_1 a0_2 l0_3).bind fun btCe => ((impl_SnakesOf.f kj38 btCe.1 btCe.2.1 btCe.2.2.1 btCe.2.2.2).bind fun btCk => ((laws_eqJumpS.f kj38 btCk.1 tBL).bind fun tCo => (if tCo = true then (laws_FnExactSnakesOf.j2 kj38 tCc tCb (btCk.2 != tBO)) else (laws_FnExactSnakesOf.j2 kj38 tCc tCb true))))) else (some false))) = some r := H
         have A58 := Aside0.mk A580
         clear A580
         by_cases c59 : tCd < 0
         ·rw [if_pos c59] at H
          have c59b0 : decide (tCd < 0) = true := decide_eq_true c59
          clear c59
          obtain rfl := Option.some.inj H
          obtain ⟨Ao60, co60, eo60⟩ := Kd.R_slice HO_7.out
          subst eo60
          go_wp2_with (first | ((with_reducible refine gate_callee (f := 59) rfl ?_); refine goesL_ (some 64) rfl rfl Try.func59 (by kernel_rfl) rfl #[.slice Ao60 tBW.length co60, .int .i64 1] rfl argS ?_; (with_reducible refine (laws_markJumpS.calls kj38 (fun k_ => some k_ = (.slice Ao60 tBW.length co60 : Value).ownBlock) (.slice Ao60 tBW.length co60) tBW 1 tCb tCc w _ ?side1 ?side2 A57.out).mono ?_); (case side1 => exact belS); (case side2 => exact Kd.R_tight rfl HO_7.out); rintro e w61 ⟨rfl, hy0, hb, hkp⟩; refine ⟨_, rfl, ?_⟩; have n0_ := Aside0.mk (Kd.R_mono (ok' := fun k_ => some k_ ≠ (.slice Ao60 tBW.length co60 : Value).ownBlock ∧ some k_ ≠ (.slice Ao24 tC9.length co24 : Value).ownBlock) (Kd.R_keptB (HO_4.out) hkp (fun k_ hk_ hs_ => (hk_.1) hs_)) (fun k_ hk_ => ⟨hk_.1.1, hk_.1.2⟩)); have n1_ := Aside0.mk (Kd.R_reok rfl hy0 (fun k_ e_ => HO_7.out.1 k_ e_)); have n2_ := Aside0.mk (Kd.R_mono (ok' := fun k_ => some k_ ≠ (vBM : Value).ownBlock ∧ some k_ ≠ (.slice Ao60 tBW.length co60 : Value).ownBlock) (Kd.R_keptB (HO_BW003.out) hkp (fun k_ hk_ hs_ => (hk_.2) hs_)) (fun k_ hk_ => ⟨hk_.1.1, hk_.1.2⟩)); have n3_ := Aside0.mk (blk_kept (blk_up BKBD.out) hkp (fun hs_ => (fun e_ => (Kd.R_ne HO_7.out BKBD.out (by decide)) e_) hs_)); have n4_ := Aside0.mk (blk_kept (blk_up BKBV.out) hkp (fun hs_ => (fun e_ => (Kd.R_ne HO_7.out BKBV.out (by decide)) e_) hs_)); have n5_ := Aside0.mk (hb); clear HO_4; clear HO_7; clear HO_BW003; clear BKBD; clear BKBV; clear HB; have HO_4 := n0_; have HO_7 := n1_; have HO_BW003 := n2_; have BKBD := n3_; have BKBV := n4_; have HB := n5_; clear n0_ n1_ n2_ n3_ n4_ n5_; (try clear hb); (try clear hkp); (try clear hy0)) | ((with_reducible refine gate_callee (f := 60) rfl ?_); refine goesL_ (some 67) rfl rfl Try.func60 (by kernel_rfl) rfl #[.slice Ao60 tCc.length co60, .int .i64 1] rfl (by (try simp only [List.map_toArray, List.map_cons, List.map_nil]); first | done | (rw [show tCc.length = tBW.length from (Kd.R_reads' HO_7.out).1.symm] <;> rfl) | rfl | (simp only [List.length_drop, List.length_take]; rfl)) ?_; (with_reducible refine (laws_heldJumpS.calls kj38 _ _ tCc 1 tCd _ ?side1 ?side2 A58.out).mono ?_); (case side1 => exact Kd.C_up (Kd.R_reads' HO_7.out).2.2); (case side2 => rw [show tCc.length = tBW.length from (Kd.R_reads' HO_7.out).1.symm]; exact (Kd.R_reads' HO_7.out).2.1); rintro e w' ⟨rfl, ⟨nd, rfl⟩⟩; refine ⟨_, rfl, ?_⟩))
          go_ret
          exact ⟨by first | rfl | (simp [errW_none, errW_some] <;> rfl) | (simp [*, errW_none, errW_some] <;> rfl), by exact belS⟩
         ·rw [if_neg c59] at H
          have c59b0 : decide (tCd < 0) = false := decide_eq_false c59
          clear c59
          by_cases c62 : tCd = tCb
          ·rw [if_pos c62] at H
           have c62b0 : (tCd == tCb) = true := beq_iff_eq.mpr c62
           have c62b1 : (tCd != tCb) = false := bne_eq_false_iff_eq.mpr c62
           clear c62
           replace H := Option.bind_eq_some_iff.mp H
           obtain ⟨⟨tCe, tCf, tCg, tCh⟩, A630, H⟩ := H
           replace H : ((impl_SnakesOf.f kj38 tCe tCf tCg tCh).bind fun btCk => ((laws_eqJumpS.f kj38 btCk.1 tBL).bind fun tCo => (if tCo = true then (laws_FnExactSnakesOf.j2 kj38 tCc tCb (btCk.2 != tBO)) else (laws_FnExactSnakesOf.j2 kj38 tCc tCb true)))) = some r := H
           have A63 := Aside0.mk A630
           clear A630
           replace H := Option.bind_eq_some_iff.mp H
           obtain ⟨⟨tCk, tCn⟩, A640, H⟩ := H
           replace H : ((laws_eqJumpS.f kj38 tCk tBL).bind fun tCo => (if tCo = true then (laws_FnExactSnakesOf.j2 kj38 tCc tCb (tCn != tBO)) else (laws_FnExactSnakesOf.j2 kj38 tCc tCb true))) = some r := H
           have A64 := Aside0.mk A640
           clear A640
           have HC65 := Aside0.mk H
           clear H
           obtain ⟨Ao66, co66, eo66⟩ := Kd.R_slice HO_7.out
           subst eo66
           go_upto_region 25 with (first | ((with_reducible refine gate_callee (f := 59) rfl ?_); refine goesL_ (some 64) rfl rfl Try.func59 (by kernel_rfl) rfl #[.slice Ao66 tBW.length co66, .int .i64 1] rfl argS ?_; (with_reducible refine (laws_markJumpS.calls kj38 (fun k_ => some k_ = (.slice Ao66 tBW.length co66 : Value).ownBlock) (.slice Ao66 tBW.length co66) tBW 1 tCb tCc w _ ?side1 ?side2 A57.out).mono ?_); (case side1 => exact belS); (case side2 => exact Kd.R_tight rfl HO_7.out); rintro e w67 ⟨rfl, hy0, hb, hkp⟩; refine ⟨_, rfl, ?_⟩; have n0_ := Aside0.mk (Kd.R_mono (ok' := fun k_ => some k_ ≠ (.slice Ao66 tBW.length co66 : Value).ownBlock ∧ some k_ ≠ (.slice Ao24 tC9.length co24 : Value).ownBlock) (Kd.R_keptB (HO_4.out) hkp (fun k_ hk_ hs_ => (hk_.1) hs_)) (fun k_ hk_ => ⟨hk_.1.1, hk_.1.2⟩)); have n1_ := Aside0.mk (Kd.R_reok rfl hy0 (fun k_ e_ => HO_7.out.1 k_ e_)); have n2_ := Aside0.mk (Kd.R_mono (ok' := fun k_ => some k_ ≠ (vBM : Value).ownBlock ∧ some k_ ≠ (.slice Ao66 tBW.length co66 : Value).ownBlock) (Kd.R_keptB (HO_BW003.out) hkp (fun k_ hk_ hs_ => (hk_.2) hs_)) (fun k_ hk_ => ⟨hk_.1.1, hk_.1.2⟩)); have n3_ := Aside0.mk (blk_kept (blk_up BKBD.out) hkp (fun hs_ => (fun e_ => (Kd.R_ne HO_7.out BKBD.out (by decide)) e_) hs_)); have n4_ := Aside0.mk (blk_kept (blk_up BKBV.out) hkp (fun hs_ => (fun e_ => (Kd.R_ne HO_7.out BKBV.out (by decide)) e_) hs_)); have n5_ := Aside0.mk (hb); clear HO_4; clear HO_7; clear HO_BW003; clear BKBD; clear BKBV; clear HB; have HO_4 := n0_; have HO_7 := n1_; have HO_BW003 := n2_; have BKBD := n3_; have BKBV := n4_; have HB := n5_; clear n0_ n1_ n2_ n3_ n4_ n5_; (try clear hb); (try clear hkp); (try clear hy0)) | ((with_reducible refine gate_callee (f := 60) rfl ?_); refine goesL_ (some 67) rfl rfl Try.func60 (by kernel_rfl) rfl #[.slice Ao66 tCc.length co66, .int .i64 1] rfl (by (try simp only [List.map_toArray, List.map_cons, List.map_nil]); first | done | (rw [show tCc.length = tBW.length from (Kd.R_reads' HO_7.out).1.symm] <;> rfl) | rfl | (simp only [List.length_drop, List.length_take]; rfl)) ?_; (with_reducible refine (laws_heldJumpS.calls kj38 _ _ tCc 1 tCd _ ?side1 ?side2 A58.out).mono ?_); (case side1 => exact Kd.C_up (Kd.R_reads' HO_7.out).2.2); (case side2 => rw [show tCc.length = tBW.length from (Kd.R_reads' HO_7.out).1.symm]; exact (Kd.R_reads' HO_7.out).2.1); rintro e w' ⟨rfl, ⟨nd, rfl⟩⟩; refine ⟨_, rfl, ?_⟩; have hnb68 := NBBD_BV.out; have hnc68 := NBBV_BD.out; obtain ⟨hcz69_0, hcz69_1, hcz69_2, hcz69_3, hfz69_0, hfz69_1, hfz69_2, hfz69_3⟩ := blk4 BKBD.out) | ((with_reducible refine gate_callee (f := 39) rfl ?_); refine goesL_ (some 75) rfl rfl Try.func39 (by kernel_rfl) rfl #[.agg #[.int .i64 a0_0, .int .i64 a0_1, .int .i64 a0_2, .slice A0_3 l0_3.length c0_3]] rfl argS ?_; (with_reducible refine (laws_toBoard.calls kj38 a0_0 a0_1 a0_2 _ _ l0_3 tCe tCf tCg tCh _ ?side1 ?side2 A63.out).mono ?_); (case side1 => exact Kd.C_up (Kd.C_below HR0_3.out belS)); (case side2 => exact HC0_3.out); rintro e w70 ⟨vCi, rfl, ho0, hb⟩; refine ⟨_, rfl, ?_⟩; have n0_ := Aside0.mk (Kd.R_elder' (Kd.R_up HO_4.out) (Kd.R_base ho0) hb); have n1_ := Aside0.mk (Kd.R_elder' (Kd.R_up HO_7.out) (Kd.R_base ho0) hb); have n2_ := Aside0.mk (Kd.R_elder' (Kd.R_up HO_BW003.out) (Kd.R_base ho0) hb); have n3_ := Aside0.mk (Kd.R_lower (Kd.R_new' (Kd.R_new' (Kd.R_new' ho0 (Kd.R_lt (Kd.R_up HO_4.out))) (Kd.R_lt (Kd.R_up HO_7.out))) (Kd.R_lt (Kd.R_up HO_BW003.out))) (below_size belS)); have n4_ := Aside0.mk (blk_below (blk_up BKBD.out) hb); have n5_ := Aside0.mk (blk_below (blk_up BKBV.out) hb); have n6_ := Aside0.mk (below_step belS hb); clear HO_4; clear HO_7; clear HO_BW003; clear BKBD; clear BKBV; clear HB; have HO_4 := n0_; have HO_7 := n1_; have HO_BW003 := n2_; have HOCj := n3_; have BKBD := n4_; have BKBV := n5_; have HB := n6_; clear n0_ n1_ n2_ n3_ n4_ n5_ n6_; (try clear hb); (try clear hb2); (try clear hk); (try clear hi); (try clear ho0); obtain ⟨Ao71, co71, eo71⟩ := Kd.R_slice HOCj.out; subst eo71) | ((with_reducible refine gate_callee (f := 62) rfl ?_); refine goesL_ (some 76) rfl rfl Try.func62 (by kernel_rfl) rfl #[.agg #[.int .i64 tCe, .int .i64 tCf, .int .i64 tCg, .slice Ao71 tCh.length co71]] rfl argS ?_; (with_reducible refine (impl_SnakesOf.calls kj38 tCe tCf tCg _ _ tCh tCk tCn _ ?side1 ?side2 A64.out).mono ?_); (case side1 => exact Kd.C_up (Kd.R_reads' HOCj.out).2.2); (case side2 => exact (Kd.R_reads' HOCj.out).2.1); rintro e w72 ⟨vCl, rfl, ho0, hb⟩; refine ⟨_, rfl, ?_⟩; have n0_ := Aside0.mk (Kd.R_elder' (Kd.R_up HO_4.out) (Kd.R_base ho0) hb); have n1_ := Aside0.mk (Kd.R_elder' (Kd.R_up HO_7.out) (Kd.R_base ho0) hb); have n2_ := Aside0.mk (Kd.R_elder' (Kd.R_up HO_BW003.out) (Kd.R_base ho0) hb); have n3_ := Aside0.mk (Kd.R_elder' (Kd.R_up HOCj.out) (Kd.R_base ho0) hb); have n4_ := Aside0.mk (Kd.R_lower (Kd.R_new' (Kd.R_new' (Kd.R_new' (Kd.R_new' ho0 (Kd.R_lt (Kd.R_up HO_4.out))) (Kd.R_lt (Kd.R_up HO_7.out))) (Kd.R_lt (Kd.R_up HO_BW003.out))) (Kd.R_lt (Kd.R_up HOCj.out))) (below_size belS)); have n5_ := Aside0.mk (blk_below (blk_up BKBD.out) hb); have n6_ := Aside0.mk (blk_below (blk_up BKBV.out) hb); have n7_ := Aside0.mk (below_step belS hb); clear HO_4; clear HO_7; clear HO_BW003; clear HOCj; clear BKBD; clear BKBV; clear HB; have HO_4 := n0_; have HO_7 := n1_; have HO_BW003 := n2_; have HOCj := n3_; have HOCm := n4_; have BKBD := n5_; have BKBV := n6_; have HB := n7_; clear n0_ n1_ n2_ n3_ n4_ n5_ n6_ n7_; (try clear hb); (try clear hb2); (try clear hk); (try clear hi); (try clear ho0)))
           (try simp only [Act.put, List.setIfInBounds_toArray, List.set_cons_zero, List.set_cons_succ])
           go_cut [87] (fun v87 wc => ∃ (kq : Nat) (x87_64 : Bool), v87 = .bool x87_64 ∧ Aside0 (laws_FnExactSnakesOf.j2 kq tCc tCb x87_64 = some r) ∧ Aside0 (kq ≤ kj38) ∧ Aside0 (Kd.R k27 27 wc w.heap.size (fun k_ => some k_ ≠ ((.slice Ao24 tC9.length co24) : Value).ownBlock) (.slice Ao66 tBW.length co66) tCc) ∧ Aside0 (Kd.R k27 27 wc w.heap.size (fun k_ => some k_ ≠ ((.slice Ao66 tBW.length co66) : Value).ownBlock) (.slice Ao24 tC9.length co24) tC9) ∧ Aside0 (wc.heap[gbBD]? = some (.cells #[.int .i64 a0_0, .int .i64 a0_1, .int .i64 a0_2, (.slice A0_3 l0_3.length c0_3)] 24 (0, 0))) ∧ Aside0 (wc.heap[gbBV]? = some (.cells #[.int .i64 tBP, .int .i64 tBQ, .int .i64 tBR, (.slice Ao24 tC9.length co24)] 32 (0, 0))) ∧ Aside0 (Below w.heap.size w wc))
           case first =>
            have H := HC65.out
            clear HC65
            replace H := Option.bind_eq_some_iff.mp H
            obtain ⟨tCo, A730, H⟩ := H
            replace H : (if tCo = true then (laws_FnExactSnakesOf.j2 kj38 tCc tCb (tCn != tBO)) else (laws_FnExactSnakesOf.j2 kj38 tCc tCb true)) = some r := H
            have A73 := Aside0.mk A730
            clear A730
            by_cases c74 : tCo = true
            ·subst c74
             have H1 : (laws_FnExactSnakesOf.j2 kj38 tCc tCb (tCn != tBO)) = some r := by rw [if_pos rfl] at H; exact H
             clear H
             have H := H1
             clear H1
             have H' := Aside0.mk H
             clear H
             obtain ⟨Ao75, co75, eo75⟩ := Kd.R_slice HOCm.out
             subst eo75
             obtain ⟨Ao76, co76, eo76⟩ := Kd.R_slice HO_4.out
             subst eo76
             go_wp2_with (first | ((with_reducible refine gate_callee (f := 58) rfl ?_); refine goesL_ (some 81) rfl rfl Try.func58 (by kernel_rfl) rfl #[.slice Ao75 tCk.length co75, .slice Ao76 tBL.length co76] rfl argS ?_; (with_reducible refine (laws_eqJumpS.calls kj38 _ _ tCk _ _ tBL true _ ?side1 ?side2 ?side3 ?side4 A73.out).mono ?_); (case side1 => exact Kd.C_up (Kd.R_reads' HOCm.out).2.2); (case side2 => exact (Kd.R_reads' HOCm.out).2.1); (case side3 => exact Kd.C_up (Kd.R_reads' HO_4.out).2.2); (case side4 => exact (Kd.R_reads' HO_4.out).2.1); rintro e w77 ⟨rfl, hb⟩; refine ⟨_, rfl, ?_⟩; have n0_ := Aside0.mk (Kd.R_below (Kd.R_up HO_4.out) hb); have n1_ := Aside0.mk (Kd.R_below (Kd.R_up HO_7.out) hb); have n2_ := Aside0.mk (Kd.R_below (Kd.R_up HO_BW003.out) hb); have n3_ := Aside0.mk (Kd.R_below (Kd.R_up HOCj.out) hb); have n4_ := Aside0.mk (Kd.R_below (Kd.R_up HOCm.out) hb); have n5_ := Aside0.mk (blk_below (blk_up BKBD.out) hb); have n6_ := Aside0.mk (blk_below (blk_up BKBV.out) hb); have n7_ := Aside0.mk (below_step belS hb); clear HO_4; clear HO_7; clear HO_BW003; clear HOCj; clear HOCm; clear BKBD; clear BKBV; clear HB; have HO_4 := n0_; have HO_7 := n1_; have HO_BW003 := n2_; have HOCj := n3_; have HOCm := n4_; have BKBD := n5_; have BKBV := n6_; have HB := n7_; clear n0_ n1_ n2_ n3_ n4_ n5_ n6_ n7_; (try clear hb); (try clear hb2); (try clear hk); (try clear hi)))
             go_meet
             case rel => exact ⟨_, ((tCn != tBO)), (by first | rfl | (simp; done) | (simp [*]; done)), H', ⟨by have := HJ10.out; have := HJ38.out; first | omega | exact Nat.le_refl _⟩, ⟨by (try simp only [hlBW003_38]); (with_reducible repeat (first | apply Kd.R_alloc | apply Kd.R_drewN | apply Kd.R_drew)); exact Kd.R_mono HO_7.out (fun _ hk => hk.1.1.2)⟩, ⟨by (try simp only [hlBW003_38]); (with_reducible repeat (first | apply Kd.R_alloc | apply Kd.R_drewN | apply Kd.R_drew)); exact Kd.R_mono HO_BW003.out (fun _ hk => hk.1.1.2)⟩, ⟨by (try simp only [hlBW003_38]); (with_reducible repeat (first | refine blk_drewN ?_ _ | refine blk_drew ?_ | refine blk_alloc ?_ _)); exact BKBD.out⟩, ⟨by (try simp only [hlBW003_38]); (with_reducible repeat (first | refine blk_drewN ?_ _ | refine blk_drew ?_ | refine blk_alloc ?_ _)); exact BKBV.out⟩, ⟨by exact belS⟩⟩
            ·replace c74 := Bool.eq_false_iff.mpr c74
             subst c74
             have H1 : (laws_FnExactSnakesOf.j2 kj38 tCc tCb true) = some r := by rw [if_neg (show ¬ (false = true) by decide)] at H; exact H
             clear H
             have H := H1
             clear H1
             have H' := Aside0.mk H
             clear H
             obtain ⟨Ao78, co78, eo78⟩ := Kd.R_slice HOCm.out
             subst eo78
             obtain ⟨Ao79, co79, eo79⟩ := Kd.R_slice HO_4.out
             subst eo79
             go_wp2_with (first | ((with_reducible refine gate_callee (f := 58) rfl ?_); refine goesL_ (some 81) rfl rfl Try.func58 (by kernel_rfl) rfl #[.slice Ao78 tCk.length co78, .slice Ao79 tBL.length co79] rfl argS ?_; (with_reducible refine (laws_eqJumpS.calls kj38 _ _ tCk _ _ tBL false _ ?side1 ?side2 ?side3 ?side4 A73.out).mono ?_); (case side1 => exact Kd.C_up (Kd.R_reads' HOCm.out).2.2); (case side2 => exact (Kd.R_reads' HOCm.out).2.1); (case side3 => exact Kd.C_up (Kd.R_reads' HO_4.out).2.2); (case side4 => exact (Kd.R_reads' HO_4.out).2.1); rintro e w80 ⟨rfl, hb⟩; refine ⟨_, rfl, ?_⟩; have n0_ := Aside0.mk (Kd.R_below (Kd.R_up HO_4.out) hb); have n1_ := Aside0.mk (Kd.R_below (Kd.R_up HO_7.out) hb); have n2_ := Aside0.mk (Kd.R_below (Kd.R_up HO_BW003.out) hb); have n3_ := Aside0.mk (Kd.R_below (Kd.R_up HOCj.out) hb); have n4_ := Aside0.mk (Kd.R_below (Kd.R_up HOCm.out) hb); have n5_ := Aside0.mk (blk_below (blk_up BKBD.out) hb); have n6_ := Aside0.mk (blk_below (blk_up BKBV.out) hb); have n7_ := Aside0.mk (below_step belS hb); clear HO_4; clear HO_7; clear HO_BW003; clear HOCj; clear HOCm; clear BKBD; clear BKBV; clear HB; have HO_4 := n0_; have HO_7 := n1_; have HO_BW003 := n2_; have HOCj := n3_; have HOCm := n4_; have BKBD := n5_; have BKBV := n6_; have HB := n7_; clear n0_ n1_ n2_ n3_ n4_ n5_ n6_ n7_; (try clear hb); (try clear hb2); (try clear hk); (try clear hi)))
             go_meet
             case rel => exact ⟨_, (true), (by first | rfl | (simp; done) | (simp [*]; done)), H', ⟨by have := HJ10.out; have := HJ38.out; first | omega | exact Nat.le_refl _⟩, ⟨by (try simp only [hlBW003_38]); (with_reducible repeat (first | apply Kd.R_alloc | apply Kd.R_drewN | apply Kd.R_drew)); exact Kd.R_mono HO_7.out (fun _ hk => hk.1.1.2)⟩, ⟨by (try simp only [hlBW003_38]); (with_reducible repeat (first | apply Kd.R_alloc | apply Kd.R_drewN | apply Kd.R_drew)); exact Kd.R_mono HO_BW003.out (fun _ hk => hk.1.1.2)⟩, ⟨by (try simp only [hlBW003_38]); (with_reducible repeat (first | refine blk_drewN ?_ _ | refine blk_drew ?_ | refine blk_alloc ?_ _)); exact BKBD.out⟩, ⟨by (try simp only [hlBW003_38]); (with_reducible repeat (first | refine blk_drewN ?_ _ | refine blk_drew ?_ | refine blk_alloc ?_ _)); exact BKBV.out⟩, ⟨by exact belS⟩⟩
           case rest =>
            clear HC65
            try clear c2
            try clear p2
            try clear c3
            try clear c3b0
            try clear c4
            try clear c5
            try clear c6
            try clear c7
            try clear c9
            try clear c22
            try clear c27
            try clear c34
            try clear c37
            try clear c39
            try clear c42
            try clear c44
            try clear c47
            try clear c47b0
            try clear c49
            try clear c56
            try clear c58
            try clear c59
            try clear c59b0
            try clear c60
            try clear c61
            try clear c62
            try clear c62b0
            try clear c62b1
            try clear c68
            try clear c74
            try clear hcz13_0 hcz13_1 hcz13_2 hcz13_3
            try clear hcz15_0 hcz15_1 hcz15_2 hcz15_3
            try clear hcz19_0 hcz19_1 hcz19_2 hcz19_3
            try clear hcz23_0 hcz23_1 hcz23_2 hcz23_3
            try clear hcz45_0 hcz45_1 hcz45_2 hcz45_3
            try clear hcz5_0 hcz5_1 hcz5_2 hcz5_3
            try clear hcz69_0 hcz69_1 hcz69_2 hcz69_3
            try clear hfz13_0 hfz13_1 hfz13_2 hfz13_3
            try clear hfz15_0 hfz15_1 hfz15_2 hfz15_3
            try clear hfz19_0 hfz19_1 hfz19_2 hfz19_3
            try clear hfz23_0 hfz23_1 hfz23_2 hfz23_3
            try clear hfz45_0 hfz45_1 hfz45_2 hfz45_3
            try clear hfz5_0 hfz5_1 hfz5_2 hfz5_3
            try clear hfz69_0 hfz69_1 hfz69_2 hfz69_3
            try clear p2
            obtain ⟨kq, x87_64, rfl, HA, HJ64, HO_7, HO_BW003, BKBD, BKBV, HB⟩ := hcut
            have hl7_64 := (Kd.R_reads' HO_7.out).1
            rw [hl7_64] at HO_7
            (try simp only [hl7_64])
            (try simp only [hl7_64] at BKBD)
            (try simp only [hl7_64] at BKBV)
            (try simp only [hl7_64] at HO_BW003)
            cases kq with
            | zero => exact absurd HA.out (by simp [laws_FnExactSnakesOf.j2])
            | succ kj64 =>
             have H := HA.out
             clear HA
             simp only [laws_FnExactSnakesOf.j2] at H
             by_cases c81 : x87_64 = true
             ·subst c81
              have H1 : (some false) = some r := by rw [if_pos rfl] at H; exact H
              clear H
              have H := H1
              clear H1
              obtain rfl := Option.some.inj H
              go_wp2
              go_ret
              exact ⟨by first | rfl | (simp [errW_none, errW_some] <;> rfl) | (simp [*, errW_none, errW_some] <;> rfl), by exact belS⟩
             ·replace c81 := Bool.eq_false_iff.mpr c81
              subst c81
              have H1 : ((laws_heldJumpS.f kj64 tCc 1).bind fun tCp => (if tCp < 0 then (some false) else (if tCp = tCb then (some true) else (some false)))) = some r := by rw [if_neg (show ¬ (false = true) by decide)] at H; exact H
              clear H
              have H := H1
              clear H1
              replace H := Option.bind_eq_some_iff.mp H
              obtain ⟨tCp, A820, H⟩ := H
              replace H : (if tCp < 0 then (some false) else (if tCp = tCb then (some true) else (some false))) = some r := H
              have A82 := Aside0.mk A820
              clear A820
              by_cases c83 : tCp < 0
              ·rw [if_pos c83] at H
               have c83b0 : decide (tCp < 0) = true := decide_eq_true c83
               clear c83
               obtain rfl := Option.some.inj H
               go_wp2_with (first | ((with_reducible refine gate_callee (f := 60) rfl ?_); refine goesL_ (some 90) rfl rfl Try.func60 (by kernel_rfl) rfl #[.slice Ao66 tCc.length co66, .int .i64 1] rfl argS ?_; (with_reducible refine (laws_heldJumpS.calls kj64 _ _ tCc 1 tCp _ ?side1 ?side2 A82.out).mono ?_); (case side1 => exact Kd.C_up (Kd.R_reads' HO_7.out).2.2); (case side2 => exact (Kd.R_reads' HO_7.out).2.1); rintro e w' ⟨rfl, ⟨nd, rfl⟩⟩; refine ⟨_, rfl, ?_⟩))
               go_ret
               exact ⟨by first | rfl | (simp [errW_none, errW_some] <;> rfl) | (simp [*, errW_none, errW_some] <;> rfl), by exact belS⟩
              ·rw [if_neg c83] at H
               have c83b0 : decide (tCp < 0) = false := decide_eq_false c83
               clear c83
               by_cases c84 : tCp = tCb
               ·rw [if_pos c84] at H
                have c84b0 : (tCp == tCb) = true := beq_iff_eq.mpr c84
                have c84b1 : (tCp != tCb) = false := bne_eq_false_iff_eq.mpr c84
                clear c84
                obtain rfl := Option.some.inj H
                go_wp2_with (first | ((with_reducible refine gate_callee (f := 60) rfl ?_); refine goesL_ (some 90) rfl rfl Try.func60 (by kernel_rfl) rfl #[.slice Ao66 tCc.length co66, .int .i64 1] rfl argS ?_; (with_reducible refine (laws_heldJumpS.calls kj64 _ _ tCc 1 tCp _ ?side1 ?side2 A82.out).mono ?_); (case side1 => exact Kd.C_up (Kd.R_reads' HO_7.out).2.2); (case side2 => exact (Kd.R_reads' HO_7.out).2.1); rintro e w' ⟨rfl, ⟨nd, rfl⟩⟩; refine ⟨_, rfl, ?_⟩))
                go_ret
                exact ⟨by first | rfl | (simp [errW_none, errW_some] <;> rfl) | (simp [*, errW_none, errW_some] <;> rfl), by exact belS⟩
               ·rw [if_neg c84] at H
                have c84b0 : (tCp == tCb) = false := beq_eq_false_iff_ne.mpr c84
                have c84b1 : (tCp != tCb) = true := bne_iff_ne.mpr c84
                obtain rfl := Option.some.inj H
                go_wp2_with (first | ((with_reducible refine gate_callee (f := 60) rfl ?_); refine goesL_ (some 90) rfl rfl Try.func60 (by kernel_rfl) rfl #[.slice Ao66 tCc.length co66, .int .i64 1] rfl argS ?_; (with_reducible refine (laws_heldJumpS.calls kj64 _ _ tCc 1 tCp _ ?side1 ?side2 A82.out).mono ?_); (case side1 => exact Kd.C_up (Kd.R_reads' HO_7.out).2.2); (case side2 => exact (Kd.R_reads' HO_7.out).2.1); rintro e w' ⟨rfl, ⟨nd, rfl⟩⟩; refine ⟨_, rfl, ?_⟩))
                go_ret
                exact ⟨by first | rfl | (simp [errW_none, errW_some] <;> rfl) | (simp [*, errW_none, errW_some] <;> rfl), by exact belS⟩
          ·rw [if_neg c62] at H
           have c62b0 : (tCd == tCb) = false := beq_eq_false_iff_ne.mpr c62
           have c62b1 : (tCd != tCb) = true := bne_iff_ne.mpr c62
           obtain rfl := Option.some.inj H
           obtain ⟨Ao85, co85, eo85⟩ := Kd.R_slice HO_7.out
           subst eo85
           go_wp2_with (first | ((with_reducible refine gate_callee (f := 59) rfl ?_); refine goesL_ (some 64) rfl rfl Try.func59 (by kernel_rfl) rfl #[.slice Ao85 tBW.length co85, .int .i64 1] rfl argS ?_; (with_reducible refine (laws_markJumpS.calls kj38 (fun k_ => some k_ = (.slice Ao85 tBW.length co85 : Value).ownBlock) (.slice Ao85 tBW.length co85) tBW 1 tCb tCc w _ ?side1 ?side2 A57.out).mono ?_); (case side1 => exact belS); (case side2 => exact Kd.R_tight rfl HO_7.out); rintro e w86 ⟨rfl, hy0, hb, hkp⟩; refine ⟨_, rfl, ?_⟩; have n0_ := Aside0.mk (Kd.R_mono (ok' := fun k_ => some k_ ≠ (.slice Ao85 tBW.length co85 : Value).ownBlock ∧ some k_ ≠ (.slice Ao24 tC9.length co24 : Value).ownBlock) (Kd.R_keptB (HO_4.out) hkp (fun k_ hk_ hs_ => (hk_.1) hs_)) (fun k_ hk_ => ⟨hk_.1.1, hk_.1.2⟩)); have n1_ := Aside0.mk (Kd.R_reok rfl hy0 (fun k_ e_ => HO_7.out.1 k_ e_)); have n2_ := Aside0.mk (Kd.R_mono (ok' := fun k_ => some k_ ≠ (vBM : Value).ownBlock ∧ some k_ ≠ (.slice Ao85 tBW.length co85 : Value).ownBlock) (Kd.R_keptB (HO_BW003.out) hkp (fun k_ hk_ hs_ => (hk_.2) hs_)) (fun k_ hk_ => ⟨hk_.1.1, hk_.1.2⟩)); have n3_ := Aside0.mk (blk_kept (blk_up BKBD.out) hkp (fun hs_ => (fun e_ => (Kd.R_ne HO_7.out BKBD.out (by decide)) e_) hs_)); have n4_ := Aside0.mk (blk_kept (blk_up BKBV.out) hkp (fun hs_ => (fun e_ => (Kd.R_ne HO_7.out BKBV.out (by decide)) e_) hs_)); have n5_ := Aside0.mk (hb); clear HO_4; clear HO_7; clear HO_BW003; clear BKBD; clear BKBV; clear HB; have HO_4 := n0_; have HO_7 := n1_; have HO_BW003 := n2_; have BKBD := n3_; have BKBV := n4_; have HB := n5_; clear n0_ n1_ n2_ n3_ n4_ n5_; (try clear hb); (try clear hkp); (try clear hy0)) | ((with_reducible refine gate_callee (f := 60) rfl ?_); refine goesL_ (some 67) rfl rfl Try.func60 (by kernel_rfl) rfl #[.slice Ao85 tCc.length co85, .int .i64 1] rfl (by (try simp only [List.map_toArray, List.map_cons, List.map_nil]); first | done | (rw [show tCc.length = tBW.length from (Kd.R_reads' HO_7.out).1.symm] <;> rfl) | rfl | (simp only [List.length_drop, List.length_take]; rfl)) ?_; (with_reducible refine (laws_heldJumpS.calls kj38 _ _ tCc 1 tCd _ ?side1 ?side2 A58.out).mono ?_); (case side1 => exact Kd.C_up (Kd.R_reads' HO_7.out).2.2); (case side2 => rw [show tCc.length = tBW.length from (Kd.R_reads' HO_7.out).1.symm]; exact (Kd.R_reads' HO_7.out).2.1); rintro e w' ⟨rfl, ⟨nd, rfl⟩⟩; refine ⟨_, rfl, ?_⟩))
           go_ret
           exact ⟨by first | rfl | (simp [errW_none, errW_some] <;> rfl) | (simp [*, errW_none, errW_some] <;> rfl), by exact belS⟩
     ·replace c37 := Bool.eq_false_iff.mpr c37
      subst c37
      have H1 : (some false) = some r := by rw [if_neg (show ¬ (false = true) by decide)] at H; exact H
      clear H
      have H := H1
      clear H1
      obtain rfl := Option.some.inj H
      try go_wp2
      have n0_ := Aside0.mk (Kd.R_drew HO_4.out)
      have n1_ := Aside0.mk (Kd.R_drew HO_7.out)
      have n2_ := Aside0.mk (Kd.R_drew HO_BW003.out)
      have n3_ := Aside0.mk (blk_drew BKBD.out)
      have n4_ := Aside0.mk (blk_drew BKBV.out)
      have n5_ := Aside0.mk (below_drew1 HB.out)
      clear HO_4
      clear HO_7
      clear HO_BW003
      clear BKBD
      clear BKBV
      clear HB
      have HO_4 := n0_
      have HO_7 := n1_
      have HO_BW003 := n2_
      have BKBD := n3_
      have BKBV := n4_
      have HB := n5_
      clear n0_ n1_ n2_ n3_ n4_ n5_
      refine start_ (n := 5) (S := fun w' => w'.cell? ⟨gbBV, 0, none⟩ = some (.int .i64 tBP) ∧ w'.cell? ⟨gbBV, 1, none⟩ = some (.int .i64 tBQ) ∧ w'.cell? ⟨gbBV, 2, none⟩ = some (.int .i64 tBR) ∧ w'.cell? ⟨gbBV, 3, none⟩ = some (.slice Ao24 tBS.length co24) ∧ w'.cell? ⟨gbBD, 0, none⟩ = some (.int .i64 a0_0) ∧ w'.cell? ⟨gbBD, 1, none⟩ = some (.int .i64 a0_1) ∧ w'.cell? ⟨gbBD, 2, none⟩ = some (.int .i64 a0_2) ∧ w'.cell? ⟨gbBD, 3, none⟩ = some (.slice A0_3 l0_3.length c0_3)) (ds := []) #[false, false, false, false, false] (by kernel_rfl) rfl rfl ⟨(blk_cell BKBV.out 0).trans rfl, (blk_cell BKBV.out 1).trans rfl, (blk_cell BKBV.out 2).trans rfl, (blk_cell BKBV.out 3).trans rfl, (blk_cell BKBD.out 0).trans rfl, (blk_cell BKBD.out 1).trans rfl, (blk_cell BKBD.out 2).trans rfl, (blk_cell BKBD.out 3).trans rfl⟩ (fun hHeld => ?_)
      generalize wc.drew = w87 at HO_4 HO_7 HO_BW003 BKBD BKBV HB hHeld ⊢
      refine take_ (i := 0) (N := some 41) (v := ?_) (a' := ?_) #[true, false, false, false, false] rfl rfl (by kernel_rfl) (fun _ _ _ h => h) (Or.inl ⟨by rfl, ?_⟩) hHeld ?_ ?_
      rotate_left
      ·rintro w' ⟨s0, s1, s2, s3, s4, s5, s6, s7⟩
       go_simp
       with_reducible rfl
      rotate_left
      ·simp only [Act.put, List.setIfInBounds_toArray, List.set_cons_zero, List.set_cons_succ, i64_w, i32_w]
       rfl
      refine take_ (i := 1) (N := some 42) (v := ?_) (a' := ?_) #[true, true, false, false, false] rfl rfl (by kernel_rfl) (fun _ _ _ h => h) (Or.inl ⟨by rfl, ?_⟩) hHeld ?_ ?_
      rotate_left
      ·rintro w' ⟨s0, s1, s2, s3, s4, s5, s6, s7⟩
       go_simp
       with_reducible rfl
      rotate_left
      ·simp only [Act.put, List.setIfInBounds_toArray, List.set_cons_zero, List.set_cons_succ, i64_w, i32_w]
       rfl
      refine one_ (i := 2) (N := some 43) #[true, true, true, false, false] rfl rfl (by kernel_rfl) (by decide) (fun K hK => ?_)
      refine goes_ Try.func39 (by kernel_rfl) rfl #[.agg #[.int .i64 a0_0, .int .i64 a0_1, .int .i64 a0_2, .slice A0_3 l0_3.length c0_3]] (by rfl) rfl rfl argS ?_
      with_reducible refine (laws_toBoard.calls kj10 a0_0 a0_1 a0_2 _ _ l0_3 tC1 tC2 tC3 tC4 _ ?side1 ?side2 A35.out).mono ?_
      (case side1 => exact Kd.C_up (Kd.C_below HR0_3.out HB.out))
      (case side2 => exact HC0_3.out)
      rintro e w88 ⟨vC5, rfl, ho0, hb⟩
      refine ⟨_, rfl, ?_⟩
      have n0_ := Aside0.mk (Kd.R_elder' (Kd.R_up HO_4.out) (Kd.R_base ho0) hb)
      have n1_ := Aside0.mk (Kd.R_elder' (Kd.R_up HO_7.out) (Kd.R_base ho0) hb)
      have n2_ := Aside0.mk (Kd.R_elder' (Kd.R_up HO_BW003.out) (Kd.R_base ho0) hb)
      have n3_ := Aside0.mk (Kd.R_lower (Kd.R_new' (Kd.R_new' (Kd.R_new' ho0 (Kd.R_lt (Kd.R_up HO_4.out))) (Kd.R_lt (Kd.R_up HO_7.out))) (Kd.R_lt (Kd.R_up HO_BW003.out))) (below_size belS))
      have n4_ := Aside0.mk (blk_below (blk_up BKBD.out) hb)
      have n5_ := Aside0.mk (blk_below (blk_up BKBV.out) hb)
      have n6_ := Aside0.mk (below_step belS hb)
      clear HO_4
      clear HO_7
      clear HO_BW003
      clear BKBD
      clear BKBV
      clear HB
      have HO_4 := n0_
      have HO_7 := n1_
      have HO_BW003 := n2_
      have HOC6 := n3_
      have BKBD := n4_
      have BKBV := n5_
      have HB := n6_
      clear n0_ n1_ n2_ n3_ n4_ n5_ n6_
      (try clear hb)
      (try clear hb2)
      (try clear hk)
      (try clear hi)
      (try clear ho0)
      obtain ⟨Ao89, co89, eo89⟩ := Kd.R_slice HOC6.out
      (first | subst eo89 | (injection eo89 with f1_ f2_ f3_; have f4_ := f1_.symm; have f5_ := f3_.symm; clear f1_ f2_ f3_; subst f4_; subst f5_))
      refine hK.out _ _ ⟨(blk_cell BKBV.out 0).trans rfl, (blk_cell BKBV.out 1).trans rfl, (blk_cell BKBV.out 2).trans rfl, (blk_cell BKBV.out 3).trans rfl, (blk_cell BKBD.out 0).trans rfl, (blk_cell BKBD.out 1).trans rfl, (blk_cell BKBD.out 2).trans rfl, (blk_cell BKBD.out 3).trans rfl⟩ (fun hHeld => ?_)
      clear hK K
      refine norm_ (a' := ?_) ?_ ?_
      rotate_left
      ·show Act.put _ (some 43) _ = _
       simp only [Act.put, List.setIfInBounds_toArray, List.set_cons_zero, List.set_cons_succ, i64_w, i32_w]
       rfl
      refine one_ (i := 3) (N := some 44) #[true, true, true, true, false] rfl rfl (by kernel_rfl) (by decide) (fun K hK => ?_)
      refine goes_ Try.func42 (by kernel_rfl) rfl #[.agg #[.int .i64 tBP, .int .i64 tBQ, .int .i64 tBR, .slice Ao24 tBS.length co24], .agg #[.int .i64 tC1, .int .i64 tC2, .int .i64 tC3, .slice Ao89 tC4.length co89]] (by rfl) rfl rfl argS ?_
      with_reducible refine (laws_eqBoard.calls kj10 tBP tBQ tBR _ _ tBS tC1 tC2 tC3 _ _ tC4 false _ ?side1 ?side2 ?side3 ?side4 A36.out).mono ?_
      (case side1 => exact Kd.C_up (Kd.R_reads' HO_BW003.out).2.2)
      (case side2 => exact (Kd.R_reads' HO_BW003.out).2.1)
      (case side3 => exact Kd.C_up (Kd.R_reads' HOC6.out).2.2)
      (case side4 => exact (Kd.R_reads' HOC6.out).2.1)
      rintro e w90 ⟨rfl, hb⟩
      refine ⟨_, rfl, ?_⟩
      have n0_ := Aside0.mk (Kd.R_below (Kd.R_up HO_4.out) hb)
      have n1_ := Aside0.mk (Kd.R_below (Kd.R_up HO_7.out) hb)
      have n2_ := Aside0.mk (Kd.R_below (Kd.R_up HO_BW003.out) hb)
      have n3_ := Aside0.mk (Kd.R_below (Kd.R_up HOC6.out) hb)
      have n4_ := Aside0.mk (blk_below (blk_up BKBD.out) hb)
      have n5_ := Aside0.mk (blk_below (blk_up BKBV.out) hb)
      have n6_ := Aside0.mk (below_step belS hb)
      clear HO_4
      clear HO_7
      clear HO_BW003
      clear HOC6
      clear BKBD
      clear BKBV
      clear HB
      have HO_4 := n0_
      have HO_7 := n1_
      have HO_BW003 := n2_
      have HOC6 := n3_
      have BKBD := n4_
      have BKBV := n5_
      have HB := n6_
      clear n0_ n1_ n2_ n3_ n4_ n5_ n6_
      (try clear hb)
      (try clear hb2)
      (try clear hk)
      (try clear hi)
      refine hK.out _ _ ⟨(blk_cell BKBV.out 0).trans rfl, (blk_cell BKBV.out 1).trans rfl, (blk_cell BKBV.out 2).trans rfl, (blk_cell BKBV.out 3).trans rfl, (blk_cell BKBD.out 0).trans rfl, (blk_cell BKBD.out 1).trans rfl, (blk_cell BKBD.out 2).trans rfl, (blk_cell BKBD.out 3).trans rfl⟩ (fun hHeld => ?_)
      clear hK K
      refine norm_ (a' := ?_) ?_ ?_
      rotate_left
      ·show Act.put _ (some 44) _ = _
       simp only [Act.put, List.setIfInBounds_toArray, List.set_cons_zero, List.set_cons_succ, i64_w, i32_w]
       rfl
      refine pure_ (i := 4) (N := some 45) (v := ?_) (a' := ?_) #[true, true, true, true, true] rfl rfl (by kernel_rfl) (fun _ _ _ h => h) (Or.inl ⟨by rfl, ?_⟩) ?_ ?_
      rotate_left
      ·intro w'
       go_simp
       with_reducible rfl
      rotate_left
      ·simp only [Act.put, List.setIfInBounds_toArray, List.set_cons_zero, List.set_cons_succ, i64_w, i32_w]
       rfl
      refine done_ (by kernel_rfl) ?_
      try go_wp2
      go_ret
      exact ⟨by first | rfl | (simp [errW_none, errW_some] <;> rfl) | (simp [*, errW_none, errW_some] <;> rfl), by exact belS⟩

end Go.Proofs.Ytkobjjadojpjfaa.Pr
