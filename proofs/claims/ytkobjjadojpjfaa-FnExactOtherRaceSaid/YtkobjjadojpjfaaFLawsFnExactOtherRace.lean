-- A text of the machine side, written by wip/gen.py of this repo out of the translation. Not trusted: Lean checks it.
import Derived.Test.YtkobjjadojpjfaaF0
import Derived.Test.YtkobjjadojpjfaaFImplOtherRace
import Derived.Test.YtkobjjadojpjfaaFLawsEqRace
import Derived.Test.YtkobjjadojpjfaaFLawsHeldRace
import Derived.Test.YtkobjjadojpjfaaFLawsMarkRace
import Derived.Test.YtkobjjadojpjfaaFLawsSzRace
import Derived.Test.YtkobjjadojpjfaaFLawsToRace
import Derived.Test.YtkobjjadojpjfaaHOtherRace
namespace Go.Proofs.Ytkobjjadojpjfaa.Pr
open Go.RowKit Go.Proofs.YtkobjjadojpjfaaW.PrintWords Go.Proofs.YtkobjjadojpjfaaW.PrintLast Go.Proofs.YtkobjjadojpjfaaW.PrintMore
attribute [local go_sem] max2_int min2_int max_two min_two max_three min_three max_four min_four   -- for this text's walks alone
set_option linter.unusedVariables false
set_option linter.unusedSimpArgs false

/-! ### laws_FnExactOtherRace: function 13 -/
mutual
def laws_FnExactOtherRace.j0 : Nat → Bool → Bool → Bool → Int → Int → Int → List (S82) → Int → Int → Int → Int → Int → Int → List (S27) → Int → Int → Int → Int → Int → Int → List (S27) → Int → Int → Int → Int → Int → Int → List (S27) → Int → Int → Int → Option (Bool)
 | 0, _, _, _, _, _, _, _, _, _, _, _, _, _, _, _, _, _, _, _, _, _, _, _, _, _, _, _, _, _, _, _ => none
 | k + 1, x5, x8, x40, xBE000, xBE001, xBE002, xBE003, xBE004, xBE005, xBE006, xBZ000, xBZ001, xBZ002, xBZ003, xBZ004, xBZ005, xBZ006, xC9000, xC9001, xC9002, xC9003, xC9004, xC9005, xC9006, xCk000, xCk001, xCk002, xCk003, xCk004, xCk005, xCk006 => if x40 = true then (some false) else ((laws_toRace.f k xBE000 xBE001 xBE002 xBE003 xBE004 xBE005 xBE006).bind fun btCl => ((laws_eqRace.f k xC9000 xC9001 xC9002 xC9003 xC9004 xC9005 xC9006 btCl.1 btCl.2.1 btCl.2.2.1 btCl.2.2.2.1 btCl.2.2.2.2.1 btCl.2.2.2.2.2.1 btCl.2.2.2.2.2.2).bind fun tCu => (if tCu = true then ((laws_markRace.f k xC9000 xC9001 xC9002 xC9003 xC9004 xC9005 xC9006 1).bind fun btCv => (if btCv.1 < 0 then (laws_FnExactOtherRace.j1 k x5 true xBE000 xBE001 xBE002 xBE003 xBE004 xBE005 xBE006 xBZ000 xBZ001 xBZ002 xBZ003 xBZ004 xBZ005 xBZ006 xCk000 xCk001 xCk002 xCk003 xCk004 xCk005 xCk006) else ((laws_eqRace.f k xCk000 xCk001 xCk002 xCk003 xCk004 xCk005 xCk006 xBZ000 xBZ001 xBZ002 xBZ003 xBZ004 xBZ005 xBZ006).bind fun tCx => (if tCx = true then (laws_FnExactOtherRace.j1 k x5 (x8 != x5) xBE000 xBE001 xBE002 xBE003 xBE004 xBE005 xBE006 xBZ000 xBZ001 xBZ002 xBZ003 xBZ004 xBZ005 xBZ006 xCk000 xCk001 xCk002 xCk003 xCk004 xCk005 xCk006) else (laws_FnExactOtherRace.j1 k x5 true xBE000 xBE001 xBE002 xBE003 xBE004 xBE005 xBE006 xBZ000 xBZ001 xBZ002 xBZ003 xBZ004 xBZ005 xBZ006 xCk000 xCk001 xCk002 xCk003 xCk004 xCk005 xCk006))))) else (some false))))
def laws_FnExactOtherRace.j1 : Nat → Bool → Bool → Int → Int → Int → List (S82) → Int → Int → Int → Int → Int → Int → List (S27) → Int → Int → Int → Int → Int → Int → List (S27) → Int → Int → Int → Option (Bool)
 | 0, _, _, _, _, _, _, _, _, _, _, _, _, _, _, _, _, _, _, _, _, _, _, _ => none
 | k + 1, x5, x61, xBE000, xBE001, xBE002, xBE003, xBE004, xBE005, xBE006, xBZ000, xBZ001, xBZ002, xBZ003, xBZ004, xBZ005, xBZ006, xCk000, xCk001, xCk002, xCk003, xCk004, xCk005, xCk006 => if x61 = true then (some false) else ((laws_markRace.f k xCk000 xCk001 xCk002 xCk003 xCk004 xCk005 xCk006 1).bind fun btCy => ((laws_heldRace.f k xCk000 xCk001 xCk002 btCy.2 xCk004 xCk005 xCk006 1).bind fun tCA => (if tCA < 0 then (some false) else (if tCA = btCy.1 then ((laws_toRace.f k xBE000 xBE001 xBE002 xBE003 xBE004 xBE005 xBE006).bind fun btCB => ((impl_OtherRace.f k btCB.1 btCB.2.1 btCB.2.2.1 btCB.2.2.2.1 btCB.2.2.2.2.1 btCB.2.2.2.2.2.1 btCB.2.2.2.2.2.2).bind fun btCK => ((laws_eqRace.f k btCK.1 btCK.2.1 btCK.2.2.1 btCK.2.2.2.1 btCK.2.2.2.2.1 btCK.2.2.2.2.2.1 btCK.2.2.2.2.2.2.1 xBZ000 xBZ001 xBZ002 xBZ003 xBZ004 xBZ005 xBZ006).bind fun tCV => (if tCV = true then (laws_FnExactOtherRace.j2 k btCy.1 (btCK.2.2.2.2.2.2.2 != x5) xCk000 xCk001 xCk002 btCy.2 xCk004 xCk005 xCk006) else (laws_FnExactOtherRace.j2 k btCy.1 true xCk000 xCk001 xCk002 btCy.2 xCk004 xCk005 xCk006))))) else (some false)))))
def laws_FnExactOtherRace.j2 : Nat → Int → Bool → Int → Int → Int → List (S27) → Int → Int → Int → Option (Bool)
 | 0, _, _, _, _, _, _, _, _, _ => none
 | k + 1, x10, x87, xCk000, xCk001, xCk002, xCk003, xCk004, xCk005, xCk006 => if x87 = true then (some false) else ((laws_heldRace.f k xCk000 xCk001 xCk002 xCk003 xCk004 xCk005 xCk006 1).bind fun tCW => (if tCW < 0 then (some false) else (if tCW = x10 then (some true) else (some false))))
end
def laws_FnExactOtherRace.f (k : Nat) (a0_0 : Int) (a0_1 : Int) (a0_2 : Int) (l0_3 : List (S82)) (a0_4 : Int) (a0_5 : Int) (a0_6 : Int) : Option (Bool) := (laws_szRace.f a0_0 a0_1 a0_2 l0_3 a0_4 a0_5 a0_6 1048576).bind fun tBE => (if tBE < 0 then (some true) else ((laws_toRace.f k a0_0 a0_1 a0_2 l0_3 a0_4 a0_5 a0_6).bind fun btBF => ((spec_OtherRace.f k btBF.1 btBF.2.1 btBF.2.2.1 btBF.2.2.2.1 btBF.2.2.2.2.1 btBF.2.2.2.2.2.1 btBF.2.2.2.2.2.2).bind fun btBO => ((laws_toRace.f k a0_0 a0_1 a0_2 l0_3 a0_4 a0_5 a0_6).bind fun btBZ => ((impl_OtherRace.f k btBZ.1 btBZ.2.1 btBZ.2.2.1 btBZ.2.2.2.1 btBZ.2.2.2.2.1 btBZ.2.2.2.2.2.1 btBZ.2.2.2.2.2.2).bind fun btC9 => ((laws_eqRace.f k btC9.1 btC9.2.1 btC9.2.2.1 btC9.2.2.2.1 btC9.2.2.2.2.1 btC9.2.2.2.2.2.1 btC9.2.2.2.2.2.2.1 btBO.1 btBO.2.1 btBO.2.2.1 btBO.2.2.2.1 btBO.2.2.2.2.1 btBO.2.2.2.2.2.1 btBO.2.2.2.2.2.2.1).bind fun tCk => (if tCk = true then (laws_FnExactOtherRace.j0 k btBO.2.2.2.2.2.2.2 btC9.2.2.2.2.2.2.2 (btC9.2.2.2.2.2.2.2 != btBO.2.2.2.2.2.2.2) a0_0 a0_1 a0_2 l0_3 a0_4 a0_5 a0_6 btBO.1 btBO.2.1 btBO.2.2.1 btBO.2.2.2.1 btBO.2.2.2.2.1 btBO.2.2.2.2.2.1 btBO.2.2.2.2.2.2.1 btBZ.1 btBZ.2.1 btBZ.2.2.1 btBZ.2.2.2.1 btBZ.2.2.2.2.1 btBZ.2.2.2.2.2.1 btBZ.2.2.2.2.2.2 btC9.1 btC9.2.1 btC9.2.2.1 btC9.2.2.2.1 btC9.2.2.2.2.1 btC9.2.2.2.2.2.1 btC9.2.2.2.2.2.2.1) else (laws_FnExactOtherRace.j0 k btBO.2.2.2.2.2.2.2 btC9.2.2.2.2.2.2.2 true a0_0 a0_1 a0_2 l0_3 a0_4 a0_5 a0_6 btBO.1 btBO.2.1 btBO.2.2.1 btBO.2.2.2.1 btBO.2.2.2.2.1 btBO.2.2.2.2.2.1 btBO.2.2.2.2.2.2.1 btBZ.1 btBZ.2.1 btBZ.2.2.1 btBZ.2.2.2.1 btBZ.2.2.2.2.1 btBZ.2.2.2.2.2.1 btBZ.2.2.2.2.2.2 btC9.1 btC9.2.1 btC9.2.2.1 btC9.2.2.2.1 btC9.2.2.2.2.1 btC9.2.2.2.2.2.1 btC9.2.2.2.2.2.2.1))))))))
set_option maxHeartbeats 8000000 in
set_option maxRecDepth 100000 in
theorem laws_FnExactOtherRace.calls (k : Nat) (a0_0 : Int) (a0_1 : Int) (a0_2 : Int) (A0_3 : Option Addr) (c0_3 : Nat) (l0_3 : List (S82)) (a0_4 : Int) (a0_5 : Int) (a0_6 : Int) (r : Bool) (w : World) (hr0_3 : Kd.C k82 w A0_3 l0_3.length l0_3) (hc0_3 : l0_3.length ≤ c0_3) (h : laws_FnExactOtherRace.f k a0_0 a0_1 a0_2 l0_3 a0_4 a0_5 a0_6 = some r) :
  Calls Try.prog 13 #[.agg #[.int .i64 a0_0, .int .i64 a0_1, .int .i64 a0_2, .slice A0_3 l0_3.length c0_3, .int .i64 a0_4, .int .i64 a0_5, .int .i64 a0_6]] w fun e w' => e = .returned (.bool r) ∧ Below w.heap.size w w' := by
 have hu43 := Try.underlying43
 have hu47 := Try.underlying47
 have HR0_3 := Aside0.mk hr0_3
 have HC0_3 := Aside0.mk hc0_3
 clear hr0_3 hc0_3
 have HB := Aside0.mk (Below.refl w.heap.size w)
 have H : ((laws_szRace.f a0_0 a0_1 a0_2 l0_3 a0_4 a0_5 a0_6 1048576).bind fun tBE => (if tBE < 0 then (some true) else ((laws_toRace.f k a0_0 a0_1 a0_2 l0_3 a0_4 a0_5 a0_6).bind fun btBF => ((spec_OtherRace.f k btBF.1 btBF.2.1 btBF.2.2.1 btBF.2.2.2.1 btBF.2.2.2.2.1 btBF.2.2.2.2.2.1 btBF.2.2.2.2.2.2).bind fun btBO => ((laws_toRace.f k a0_0 a0_1 a0_2 l0_3 a0_4 a0_5 a0_6).bind fun btBZ => ((impl_OtherRace.f k btBZ.1 btBZ.2.1 btBZ.2.2.1 btBZ.2.2.2.1 btBZ.2.2.2.2.1 btBZ.2.2.2.2.2.1 btBZ.2.2.2.2.2.2).bind fun btC9 => ((laws_eqRace.f k btC9.1 btC9.2.1 btC9.2.2.1 btC9.2.2.2.1 btC9.2.2.2.2.1 btC9.2.2.2.2.2.1 btC9.2.2.2.2.2.2.1 btBO.1 btBO.2.1 btBO.2.2.1 btBO.2.2.2.1 btBO.2.2.2.2.1 btBO.2.2.2.2.2.1 btBO.2.2.2.2.2.2.1).bind fun tCk => (if tCk = true then (laws_FnExactOtherRace.j0 k btBO.2.2.2.2.2.2.2 btC9.2.2.2.2.2.2.2 (btC9.2.2.2.2.2.2.2 != btBO.2.2.2.2.2.2.2) a0_0 a0_1 a0_2 l0_3 a0_4 a0_5 a0_6 btBO.1 btBO.2.1 btBO.2.2.1 btBO.2.2.2.1 btBO.2.2.2.2.1 btBO.2.2.2.2.2.1 btBO.2.2.2.2.2.2.1 btBZ.1 btBZ.2.1 btBZ.2.2.1 btBZ.2.2.2.1 btBZ.2.2.2.2.1 btBZ.2.2.2.2.2.1 btBZ.2.2.2.2.2.2 btC9.1 btC9.2.1 btC9.2.2.1 btC9.2.2.2.1 btC9.2.2.2.2.1 btC9.2.2.2.2.2.1 btC9.2.2.2.2.2.2.1) else (laws_FnExactOtherRace.j0 k btBO.2.2.2.2.2.2.2 btC9.2.2.2.2.2.2.2 true a0_0 a0_1 a0_2 l0_3 a0_4 a0_5 a0_6 btBO.1 btBO.2.1 btBO.2.2.1 btBO.2.2.2.1 btBO.2.2.2.2.1 btBO.2.2.2.2.2.1 btBO.2.2.2.2.2.2.1 btBZ.1 btBZ.2.1 btBZ.2.2.1 btBZ.2.2.2.1 btBZ.2.2.2.2.1 btBZ.2.2.2.2.2.1 btBZ.2.2.2.2.2.2 btC9.1 btC9.2.1 btC9.2.2.1 btC9.2.2.2.1 btC9.2.2.2.2.1 btC9.2.2.2.2.2.1 btC9.2.2.2.2.2.2.1))))))))) = some r := h
 clear h
 replace H := Option.bind_eq_some_iff.mp H
 obtain ⟨tBE, A20, H⟩ := H
 replace H : (if tBE < 0 then (some true) else ((laws_toRace.f k a0_0 a0_1 a0_2 l0_3 a0_4 a0_5 a0_6).bind fun btBF => ((spec_OtherRace.f k btBF.1 btBF.2.1 btBF.2.2.1 btBF.2.2.2.1 btBF.2.2.2.2.1 btBF.2.2.2.2.2.1 btBF.2.2.2.2.2.2).bind fun btBO => ((laws_toRace.f k a0_0 a0_1 a0_2 l0_3 a0_4 a0_5 a0_6).bind fun btBZ => ((impl_OtherRace.f k btBZ.1 btBZ.2.1 btBZ.2.2.1 btBZ.2.2.2.1 btBZ.2.2.2.2.1 btBZ.2.2.2.2.2.1 btBZ.2.2.2.2.2.2).bind fun btC9 => ((laws_eqRace.f k btC9.1 btC9.2.1 btC9.2.2.1 btC9.2.2.2.1 btC9.2.2.2.2.1 btC9.2.2.2.2.2.1 btC9.2.2.2.2.2.2.1 btBO.1 btBO.2.1 btBO.2.2.1 btBO.2.2.2.1 btBO.2.2.2.2.1 btBO.2.2.2.2.2.1 btBO.2.2.2.2.2.2.1).bind fun tCk => (if tCk = true then (laws_FnExactOtherRace.j0 k btBO.2.2.2.2.2.2.2 btC9.2.2.2.2.2.2.2 (btC9.2.2.2.2.2.2.2 != btBO.2.2.2.2.2.2.2) a0_0 a0_1 a0_2 l0_3 a0_4 a0_5 a0_6 btBO.1 btBO.2.1 btBO.2.2.1 btBO.2.2.2.1 btBO.2.2.2.2.1 btBO.2.2.2.2.2.1 btBO.2.2.2.2.2.2.1 btBZ.1 btBZ.2.1 btBZ.2.2.1 btBZ.2.2.2.1 btBZ.2.2.2.2.1 btBZ.2.2.2.2.2.1 btBZ.2.2.2.2.2.2 btC9.1 btC9.2.1 btC9.2.2.1 btC9.2.2.2.1 btC9.2.2.2.2.1 btC9.2.2.2.2.2.1 btC9.2.2.2.2.2.2.1) else (laws_FnExactOtherRace.j0 k btBO.2.2.2.2.2.2.2 btC9.2.2.2.2.2.2.2 true a0_0 a0_1 a0_2 l0_3 a0_4 a0_5 a0_6 btBO.1 btBO.2.1 btBO.2.2.1 btBO.2.2.2.1 btBO.2.2.2.2.1 btBO.2.2.2.2.2.1 btBO.2.2.2.2.2.2.1 btBZ.1 btBZ.2.1 btBZ.2.2.1 btBZ.2.2.2.1 btBZ.2.2.2.2.1 btBZ.2.2.2.2.2.1 btBZ.2.2.2.2.2.2 btC9.1 btC9.2.1 btC9.2.2.1 btC9.2.2.2.1 btC9.2.2.2.2.1 btC9.2.2.2.2.2.1 btC9.2.2.2.2.2.2.1)))))))) = some r := H
 have A2 := Aside0.mk A20
 clear A20
 by_cases c3 : tBE < 0
 ·rw [if_pos c3] at H
  have c3b0 : decide (tBE < 0) = true := decide_eq_true c3
  clear c3
  obtain rfl := Option.some.inj H
  go_enter Try.func13, Try.ntmps13
  go_wp2_with (first | ((with_reducible refine gate_dst (N := 1) rfl ?_); refine box_event ?hg (N := 1) ?hd (cs := #[.int .i64 a0_0, .int .i64 a0_1, .int .i64 a0_2, .slice A0_3 l0_3.length c0_3, .int .i64 a0_4, .int .i64 a0_5, .int .i64 a0_6]) (t := 43) ?hr ?_; (case hd => rfl); (case hg => rfl); (case hr => first | (go_simp; done) | (go_simp; rfl)); intro gbBD hg w4 hbox hb; have n0_ := Aside0.mk (below_step belS hb); have n1_ := Aside0.mk (hbox); have n2_ := Aside0.mk ((by rw [hg]; exact (below_size belS) : w.heap.size ≤ gbBD)); have n3_ := n2_; clear HB; have HB := n0_; have BKBD := n1_; have GWBD := n2_; have GEBD := n3_; clear n0_ n1_ n2_ n3_; clear hb hbox hg; obtain ⟨hcz5_0, hcz5_1, hcz5_2, hcz5_3, hcz5_4, hcz5_5, hcz5_6, hfz5_0, hfz5_1, hfz5_2, hfz5_3, hfz5_4, hfz5_5, hfz5_6⟩ := blk7 BKBD.out) | ((with_reducible refine gate_callee (f := 49) rfl ?_); refine goesL_ (some 16) rfl rfl Try.func49 (by kernel_rfl) rfl #[.agg #[.int .i64 a0_0, .int .i64 a0_1, .int .i64 a0_2, .slice A0_3 l0_3.length c0_3, .int .i64 a0_4, .int .i64 a0_5, .int .i64 a0_6], .int .i64 1048576] rfl argS ?_; (with_reducible refine (laws_szRace.calls a0_0 a0_1 a0_2 _ _ l0_3 a0_4 a0_5 a0_6 1048576 tBE _ ?side1 ?side2 A2.out).mono ?_); (case side1 => exact Kd.C_up (Kd.C_below HR0_3.out HB.out)); (case side2 => exact HC0_3.out); rintro e w6 ⟨rfl, hb⟩; refine ⟨_, rfl, ?_⟩; have n0_ := Aside0.mk (blk_below (blk_up BKBD.out) hb); have n1_ := Aside0.mk (below_step belS hb); clear BKBD; clear HB; have BKBD := n0_; have HB := n1_; clear n0_ n1_; (try clear hb); (try clear hb2); (try clear hk); (try clear hi)))
  go_ret
  exact ⟨by first | rfl | (simp [errW_none, errW_some] <;> rfl) | (simp [*, errW_none, errW_some] <;> rfl), by exact belS⟩
 ·rw [if_neg c3] at H
  have c3b0 : decide (tBE < 0) = false := decide_eq_false c3
  clear c3
  replace H := Option.bind_eq_some_iff.mp H
  obtain ⟨⟨tBF, tBG, tBH, tBI, tBL, tBM, tBN⟩, A70, H⟩ := H
  replace H : ((spec_OtherRace.f k tBF tBG tBH tBI tBL tBM tBN).bind fun btBO => ((laws_toRace.f k a0_0 a0_1 a0_2 l0_3 a0_4 a0_5 a0_6).bind fun btBZ => ((impl_OtherRace.f k btBZ.1 btBZ.2.1 btBZ.2.2.1 btBZ.2.2.2.1 btBZ.2.2.2.2.1 btBZ.2.2.2.2.2.1 btBZ.2.2.2.2.2.2).bind fun btC9 => ((laws_eqRace.f k btC9.1 btC9.2.1 btC9.2.2.1 btC9.2.2.2.1 btC9.2.2.2.2.1 btC9.2.2.2.2.2.1 btC9.2.2.2.2.2.2.1 btBO.1 btBO.2.1 btBO.2.2.1 btBO.2.2.2.1 btBO.2.2.2.2.1 btBO.2.2.2.2.2.1 btBO.2.2.2.2.2.2.1).bind fun tCk => (if tCk = true then (laws_FnExactOtherRace.j0 k btBO.2.2.2.2.2.2.2 btC9.2.2.2.2.2.2.2 (btC9.2.2.2.2.2.2.2 != btBO.2.2.2.2.2.2.2) a0_0 a0_1 a0_2 l0_3 a0_4 a0_5 a0_6 btBO.1 btBO.2.1 btBO.2.2.1 btBO.2.2.2.1 btBO.2.2.2.2.1 btBO.2.2.2.2.2.1 btBO.2.2.2.2.2.2.1 btBZ.1 btBZ.2.1 btBZ.2.2.1 btBZ.2.2.2.1 btBZ.2.2.2.2.1 btBZ.2.2.2.2.2.1 btBZ.2.2.2.2.2.2 btC9.1 btC9.2.1 btC9.2.2.1 btC9.2.2.2.1 btC9.2.2.2.2.1 btC9.2.2.2.2.2.1 btC9.2.2.2.2.2.2.1) else (laws_FnExactOtherRace.j0 k btBO.2.2.2.2.2.2.2 btC9.2.2.2.2.2.2.2 true a0_0 a0_1 a0_2 l0_3 a0_4 a0_5 a0_6 btBO.1 btBO.2.1 btBO.2.2.1 btBO.2.2.2.1 btBO.2.2.2.2.1 btBO.2.2.2.2.2.1 btBO.2.2.2.2.2.2.1 btBZ.1 btBZ.2.1 btBZ.2.2.1 btBZ.2.2.2.1 btBZ.2.2.2.2.1 btBZ.2.2.2.2.2.1 btBZ.2.2.2.2.2.2 btC9.1 btC9.2.1 btC9.2.2.1 btC9.2.2.2.1 btC9.2.2.2.2.1 btC9.2.2.2.2.2.1 btC9.2.2.2.2.2.2.1)))))) = some r := H
  have A7 := Aside0.mk A70
  clear A70
  replace H := Option.bind_eq_some_iff.mp H
  obtain ⟨⟨tBO, tBP, tBQ, tBR, tBU, tBV, tBW, tBX⟩, A80, H⟩ := H
  replace H : ((laws_toRace.f k a0_0 a0_1 a0_2 l0_3 a0_4 a0_5 a0_6).bind fun btBZ => ((impl_OtherRace.f k btBZ.1 btBZ.2.1 btBZ.2.2.1 btBZ.2.2.2.1 btBZ.2.2.2.2.1 btBZ.2.2.2.2.2.1 btBZ.2.2.2.2.2.2).bind fun btC9 => ((laws_eqRace.f k btC9.1 btC9.2.1 btC9.2.2.1 btC9.2.2.2.1 btC9.2.2.2.2.1 btC9.2.2.2.2.2.1 btC9.2.2.2.2.2.2.1 tBO tBP tBQ tBR tBU tBV tBW).bind fun tCk => (if tCk = true then (laws_FnExactOtherRace.j0 k tBX btC9.2.2.2.2.2.2.2 (btC9.2.2.2.2.2.2.2 != tBX) a0_0 a0_1 a0_2 l0_3 a0_4 a0_5 a0_6 tBO tBP tBQ tBR tBU tBV tBW btBZ.1 btBZ.2.1 btBZ.2.2.1 btBZ.2.2.2.1 btBZ.2.2.2.2.1 btBZ.2.2.2.2.2.1 btBZ.2.2.2.2.2.2 btC9.1 btC9.2.1 btC9.2.2.1 btC9.2.2.2.1 btC9.2.2.2.2.1 btC9.2.2.2.2.2.1 btC9.2.2.2.2.2.2.1) else (laws_FnExactOtherRace.j0 k tBX btC9.2.2.2.2.2.2.2 true a0_0 a0_1 a0_2 l0_3 a0_4 a0_5 a0_6 tBO tBP tBQ tBR tBU tBV tBW btBZ.1 btBZ.2.1 btBZ.2.2.1 btBZ.2.2.2.1 btBZ.2.2.2.2.1 btBZ.2.2.2.2.2.1 btBZ.2.2.2.2.2.2 btC9.1 btC9.2.1 btC9.2.2.1 btC9.2.2.2.1 btC9.2.2.2.2.1 btC9.2.2.2.2.2.1 btC9.2.2.2.2.2.2.1))))) = some r := H
  have A8 := Aside0.mk A80
  clear A80
  replace H := Option.bind_eq_some_iff.mp H
  obtain ⟨⟨tBZ, tC0, tC1, tC2, tC5, tC6, tC7⟩, A90, H⟩ := H
  replace H : ((impl_OtherRace.f k tBZ tC0 tC1 tC2 tC5 tC6 tC7).bind fun btC9 => ((laws_eqRace.f k btC9.1 btC9.2.1 btC9.2.2.1 btC9.2.2.2.1 btC9.2.2.2.2.1 btC9.2.2.2.2.2.1 btC9.2.2.2.2.2.2.1 tBO tBP tBQ tBR tBU tBV tBW).bind fun tCk => (if tCk = true then (laws_FnExactOtherRace.j0 k tBX btC9.2.2.2.2.2.2.2 (btC9.2.2.2.2.2.2.2 != tBX) a0_0 a0_1 a0_2 l0_3 a0_4 a0_5 a0_6 tBO tBP tBQ tBR tBU tBV tBW tBZ tC0 tC1 tC2 tC5 tC6 tC7 btC9.1 btC9.2.1 btC9.2.2.1 btC9.2.2.2.1 btC9.2.2.2.2.1 btC9.2.2.2.2.2.1 btC9.2.2.2.2.2.2.1) else (laws_FnExactOtherRace.j0 k tBX btC9.2.2.2.2.2.2.2 true a0_0 a0_1 a0_2 l0_3 a0_4 a0_5 a0_6 tBO tBP tBQ tBR tBU tBV tBW tBZ tC0 tC1 tC2 tC5 tC6 tC7 btC9.1 btC9.2.1 btC9.2.2.1 btC9.2.2.2.1 btC9.2.2.2.2.1 btC9.2.2.2.2.2.1 btC9.2.2.2.2.2.2.1)))) = some r := H
  have A9 := Aside0.mk A90
  clear A90
  replace H := Option.bind_eq_some_iff.mp H
  obtain ⟨⟨tC9, tCa, tCb, tCc, tCf, tCg, tCh, tCi⟩, A100, H⟩ := H
  replace H : ((laws_eqRace.f k tC9 tCa tCb tCc tCf tCg tCh tBO tBP tBQ tBR tBU tBV tBW).bind fun tCk => (if tCk = true then (laws_FnExactOtherRace.j0 k tBX tCi (tCi != tBX) a0_0 a0_1 a0_2 l0_3 a0_4 a0_5 a0_6 tBO tBP tBQ tBR tBU tBV tBW tBZ tC0 tC1 tC2 tC5 tC6 tC7 tC9 tCa tCb tCc tCf tCg tCh) else (laws_FnExactOtherRace.j0 k tBX tCi true a0_0 a0_1 a0_2 l0_3 a0_4 a0_5 a0_6 tBO tBP tBQ tBR tBU tBV tBW tBZ tC0 tC1 tC2 tC5 tC6 tC7 tC9 tCa tCb tCc tCf tCg tCh))) = some r := H
  have A10 := Aside0.mk A100
  clear A100
  have HC11 := Aside0.mk H
  clear H
  go_enter Try.func13, Try.ntmps13
  go_upto_region 8 with (first | ((with_reducible refine gate_dst (N := 1) rfl ?_); refine box_event ?hg (N := 1) ?hd (cs := #[.int .i64 a0_0, .int .i64 a0_1, .int .i64 a0_2, .slice A0_3 l0_3.length c0_3, .int .i64 a0_4, .int .i64 a0_5, .int .i64 a0_6]) (t := 43) ?hr ?_; (case hd => rfl); (case hg => rfl); (case hr => first | (go_simp; done) | (go_simp; rfl)); intro gbBD hg w12 hbox hb; have n0_ := Aside0.mk (below_step belS hb); have n1_ := Aside0.mk (hbox); have n2_ := Aside0.mk ((by rw [hg]; exact (below_size belS) : w.heap.size ≤ gbBD)); have n3_ := n2_; clear HB; have HB := n0_; have BKBD := n1_; have GWBD := n2_; have GEBD := n3_; clear n0_ n1_ n2_ n3_; clear hb hbox hg; obtain ⟨hcz13_0, hcz13_1, hcz13_2, hcz13_3, hcz13_4, hcz13_5, hcz13_6, hfz13_0, hfz13_1, hfz13_2, hfz13_3, hfz13_4, hfz13_5, hfz13_6⟩ := blk7 BKBD.out) | ((with_reducible refine gate_callee (f := 49) rfl ?_); refine goesL_ (some 16) rfl rfl Try.func49 (by kernel_rfl) rfl #[.agg #[.int .i64 a0_0, .int .i64 a0_1, .int .i64 a0_2, .slice A0_3 l0_3.length c0_3, .int .i64 a0_4, .int .i64 a0_5, .int .i64 a0_6], .int .i64 1048576] rfl argS ?_; (with_reducible refine (laws_szRace.calls a0_0 a0_1 a0_2 _ _ l0_3 a0_4 a0_5 a0_6 1048576 tBE _ ?side1 ?side2 A2.out).mono ?_); (case side1 => exact Kd.C_up (Kd.C_below HR0_3.out HB.out)); (case side2 => exact HC0_3.out); rintro e w14 ⟨rfl, hb⟩; refine ⟨_, rfl, ?_⟩; have n0_ := Aside0.mk (blk_below (blk_up BKBD.out) hb); have n1_ := Aside0.mk (below_step belS hb); clear BKBD; clear HB; have BKBD := n0_; have HB := n1_; clear n0_ n1_; (try clear hb); (try clear hb2); (try clear hk); (try clear hi); obtain ⟨hcz15_0, hcz15_1, hcz15_2, hcz15_3, hcz15_4, hcz15_5, hcz15_6, hfz15_0, hfz15_1, hfz15_2, hfz15_3, hfz15_4, hfz15_5, hfz15_6⟩ := blk7 BKBD.out) | ((with_reducible refine gate_callee (f := 51) rfl ?_); refine goesL_ (some 21) rfl rfl Try.func51 (by kernel_rfl) rfl #[.agg #[.int .i64 a0_0, .int .i64 a0_1, .int .i64 a0_2, .slice A0_3 l0_3.length c0_3, .int .i64 a0_4, .int .i64 a0_5, .int .i64 a0_6]] rfl argS ?_; (with_reducible refine (laws_toRace.calls k a0_0 a0_1 a0_2 _ _ l0_3 a0_4 a0_5 a0_6 tBF tBG tBH tBI tBL tBM tBN _ ?side1 ?side2 A7.out).mono ?_); (case side1 => exact Kd.C_up (Kd.C_below HR0_3.out HB.out)); (case side2 => exact HC0_3.out); rintro e w16 ⟨vBJ, rfl, ho0, hb⟩; refine ⟨_, rfl, ?_⟩; have n0_ := Aside0.mk (Kd.R_lower ho0 (below_size belS)); have n1_ := Aside0.mk (blk_below (blk_up BKBD.out) hb); have n2_ := Aside0.mk (below_step belS hb); clear BKBD; clear HB; have HOBK := n0_; have BKBD := n1_; have HB := n2_; clear n0_ n1_ n2_; (try clear hb); (try clear hb2); (try clear hk); (try clear hi); (try clear ho0); obtain ⟨Ao17, co17, eo17⟩ := Kd.R_slice HOBK.out; subst eo17) | ((with_reducible refine gate_callee (f := 73) rfl ?_); refine goesL_ (some 22) rfl rfl Try.func73 (by kernel_rfl) rfl #[.agg #[.int .i64 tBF, .int .i64 tBG, .int .i64 tBH, .slice Ao17 tBI.length co17, .int .i64 tBL, .int .i64 tBM, .int .i64 tBN]] rfl argS ?_; (with_reducible refine (spec_OtherRace.calls k tBF tBG tBH _ _ tBI tBL tBM tBN tBO tBP tBQ tBR tBU tBV tBW tBX _ ?side1 ?side2 A8.out).mono ?_); (case side1 => exact Kd.C_up (Kd.R_reads' HOBK.out).2.2); (case side2 => exact (Kd.R_reads' HOBK.out).2.1); rintro e w18 ⟨vBS, rfl, ho0, hb⟩; refine ⟨_, rfl, ?_⟩; have n0_ := Aside0.mk (Kd.R_elder' (Kd.R_up HOBK.out) (Kd.R_base ho0) hb); have n1_ := Aside0.mk (Kd.R_lower (Kd.R_new' ho0 (Kd.R_lt (Kd.R_up HOBK.out))) (below_size belS)); have n2_ := Aside0.mk (blk_below (blk_up BKBD.out) hb); have n3_ := Aside0.mk (below_step belS hb); clear HOBK; clear BKBD; clear HB; have HOBK := n0_; have HOBT := n1_; have BKBD := n2_; have HB := n3_; clear n0_ n1_ n2_ n3_; (try clear hb); (try clear hb2); (try clear hk); (try clear hi); (try clear ho0)) | ((with_reducible refine gate_dst (N := 4) rfl ?_); refine box_event ?hg (N := 4) ?hd (cs := #[.int .i64 0, .int .i64 0, .int .i64 0, .slice none 0 0, .int .i64 0, .int .i64 0, .int .i64 0]) (t := 47) ?hr ?_; (case hd => rfl); (case hg => rfl); (case hr => first | (go_simp; done) | (go_simp; rfl)); intro gbBY hg w19 hbox hb; have n0_ := Aside0.mk (Kd.R_below (Kd.R_up HOBK.out) hb); have n1_ := Aside0.mk (Kd.R_below (Kd.R_up HOBT.out) hb); have n2_ := Aside0.mk (blk_below (blk_up BKBD.out) hb); have n3_ := Aside0.mk (below_step belS hb); have n4_ := Aside0.mk (hbox); have n5_ := Aside0.mk ((by rw [hg]; exact (below_size belS) : w.heap.size ≤ gbBY)); have n6_ := n5_; have n7_ := Aside0.mk ((by rw [hg]; exact Nat.ne_of_lt (blk_lt (blk_up BKBD.out)) : gbBD ≠ gbBY)); have n8_ := Aside0.mk ((by rw [hg]; exact Nat.ne_of_gt (blk_lt (blk_up BKBD.out)) : gbBY ≠ gbBD)); clear HOBK; clear HOBT; clear BKBD; clear HB; have HOBK := n0_; have HOBT := n1_; have BKBD := n2_; have HB := n3_; have BKBY := n4_; have GWBY := n5_; have GEBY := n6_; have NBBD_BY := n7_; have NBBY_BD := n8_; clear n0_ n1_ n2_ n3_ n4_ n5_ n6_ n7_ n8_; clear hb hbox hg; have hnb20 := NBBY_BD.out; have hnc20 := NBBD_BY.out; obtain ⟨hcz21_0, hcz21_1, hcz21_2, hcz21_3, hcz21_4, hcz21_5, hcz21_6, hfz21_0, hfz21_1, hfz21_2, hfz21_3, hfz21_4, hfz21_5, hfz21_6⟩ := blk7 BKBY.out; obtain ⟨Ao22, co22, eo22⟩ := Kd.R_slice HOBT.out; subst eo22; obtain ⟨hcz23_0, hcz23_1, hcz23_2, hcz23_3, hcz23_4, hcz23_5, hcz23_6, hfz23_0, hfz23_1, hfz23_2, hfz23_3, hfz23_4, hfz23_5, hfz23_6⟩ := blk7 BKBD.out) | ((with_reducible refine gate_callee (f := 51) rfl ?_); refine goesL_ (some 26) rfl rfl Try.func51 (by kernel_rfl) rfl #[.agg #[.int .i64 a0_0, .int .i64 a0_1, .int .i64 a0_2, .slice A0_3 l0_3.length c0_3, .int .i64 a0_4, .int .i64 a0_5, .int .i64 a0_6]] rfl argS ?_; (with_reducible refine (laws_toRace.calls k a0_0 a0_1 a0_2 _ _ l0_3 a0_4 a0_5 a0_6 tBZ tC0 tC1 tC2 tC5 tC6 tC7 _ ?side1 ?side2 A9.out).mono ?_); (case side1 => exact Kd.C_below HR0_3.out belS); (case side2 => exact HC0_3.out); rintro e w24 ⟨vC3, rfl, ho0, hb⟩; refine ⟨_, rfl, ?_⟩; have n0_ := Aside0.mk (Kd.R_elder' (by (with_reducible repeat (first | apply Kd.R_alloc | apply Kd.R_drewN | apply Kd.R_drew)); exact (Kd.R_mono (Kd.R_far (p := ⟨gbBY, 6, none⟩) (Kd.R_far (p := ⟨gbBY, 5, none⟩) (Kd.R_far (p := ⟨gbBY, 4, none⟩) (Kd.R_far (p := ⟨gbBY, 3, none⟩) (Kd.R_far (p := ⟨gbBY, 2, none⟩) (Kd.R_far (p := ⟨gbBY, 1, none⟩) (Kd.R_far (p := ⟨gbBY, 0, none⟩) (Kd.R_types HOBK.out BKBY.out (by decide)) (fun _ hk => hk.2) (.int .i64 tBO)) (fun _ hk => hk.2) (.int .i64 tBP)) (fun _ hk => hk.2) (.int .i64 tBQ)) (fun _ hk => hk.2) (.slice Ao22 tBR.length co22)) (fun _ hk => hk.2) (.int .i64 tBU)) (fun _ hk => hk.2) (.int .i64 tBV)) (fun _ hk => hk.2) (.int .i64 tBW)) (fun _ h_ => h_.1))) (Kd.R_base ho0) hb); have n1_ := Aside0.mk (Kd.R_elder' (by (with_reducible repeat (first | apply Kd.R_alloc | apply Kd.R_drewN | apply Kd.R_drew)); exact (Kd.R_mono (Kd.R_far (p := ⟨gbBY, 6, none⟩) (Kd.R_far (p := ⟨gbBY, 5, none⟩) (Kd.R_far (p := ⟨gbBY, 4, none⟩) (Kd.R_far (p := ⟨gbBY, 3, none⟩) (Kd.R_far (p := ⟨gbBY, 2, none⟩) (Kd.R_far (p := ⟨gbBY, 1, none⟩) (Kd.R_far (p := ⟨gbBY, 0, none⟩) (Kd.R_types HOBT.out BKBY.out (by decide)) (fun _ hk => hk.2) (.int .i64 tBO)) (fun _ hk => hk.2) (.int .i64 tBP)) (fun _ hk => hk.2) (.int .i64 tBQ)) (fun _ hk => hk.2) (.slice Ao22 tBR.length co22)) (fun _ hk => hk.2) (.int .i64 tBU)) (fun _ hk => hk.2) (.int .i64 tBV)) (fun _ hk => hk.2) (.int .i64 tBW)) (fun _ h_ => h_.1))) (Kd.R_base ho0) hb); have n2_ := Aside0.mk (Kd.R_lower (Kd.R_new' (Kd.R_new' ho0 (Kd.R_lt (by (with_reducible repeat (first | apply Kd.R_alloc | apply Kd.R_drewN | apply Kd.R_drew)); exact (Kd.R_mono (Kd.R_far (p := ⟨gbBY, 6, none⟩) (Kd.R_far (p := ⟨gbBY, 5, none⟩) (Kd.R_far (p := ⟨gbBY, 4, none⟩) (Kd.R_far (p := ⟨gbBY, 3, none⟩) (Kd.R_far (p := ⟨gbBY, 2, none⟩) (Kd.R_far (p := ⟨gbBY, 1, none⟩) (Kd.R_far (p := ⟨gbBY, 0, none⟩) (Kd.R_types HOBK.out BKBY.out (by decide)) (fun _ hk => hk.2) (.int .i64 tBO)) (fun _ hk => hk.2) (.int .i64 tBP)) (fun _ hk => hk.2) (.int .i64 tBQ)) (fun _ hk => hk.2) (.slice Ao22 tBR.length co22)) (fun _ hk => hk.2) (.int .i64 tBU)) (fun _ hk => hk.2) (.int .i64 tBV)) (fun _ hk => hk.2) (.int .i64 tBW)) (fun _ h_ => h_.1))))) (Kd.R_lt (by (with_reducible repeat (first | apply Kd.R_alloc | apply Kd.R_drewN | apply Kd.R_drew)); exact (Kd.R_mono (Kd.R_far (p := ⟨gbBY, 6, none⟩) (Kd.R_far (p := ⟨gbBY, 5, none⟩) (Kd.R_far (p := ⟨gbBY, 4, none⟩) (Kd.R_far (p := ⟨gbBY, 3, none⟩) (Kd.R_far (p := ⟨gbBY, 2, none⟩) (Kd.R_far (p := ⟨gbBY, 1, none⟩) (Kd.R_far (p := ⟨gbBY, 0, none⟩) (Kd.R_types HOBT.out BKBY.out (by decide)) (fun _ hk => hk.2) (.int .i64 tBO)) (fun _ hk => hk.2) (.int .i64 tBP)) (fun _ hk => hk.2) (.int .i64 tBQ)) (fun _ hk => hk.2) (.slice Ao22 tBR.length co22)) (fun _ hk => hk.2) (.int .i64 tBU)) (fun _ hk => hk.2) (.int .i64 tBV)) (fun _ hk => hk.2) (.int .i64 tBW)) (fun _ h_ => h_.1))))) (below_size belS)); have n3_ := Aside0.mk (blk_below (g := gbBD) (o := .cells #[.int .i64 a0_0, .int .i64 a0_1, .int .i64 a0_2, .slice A0_3 l0_3.length c0_3, .int .i64 a0_4, .int .i64 a0_5, .int .i64 a0_6] 43 (0, 0)) (by (with_reducible repeat (first | refine blk_drewN ?_ _ | refine blk_drew ?_ | refine blk_alloc ?_ _)); refine blk_far ?_ NBBD_BY.out _; (with_reducible repeat (first | refine blk_drewN ?_ _ | refine blk_drew ?_ | refine blk_alloc ?_ _)); refine blk_far ?_ NBBD_BY.out _; (with_reducible repeat (first | refine blk_drewN ?_ _ | refine blk_drew ?_ | refine blk_alloc ?_ _)); refine blk_far ?_ NBBD_BY.out _; (with_reducible repeat (first | refine blk_drewN ?_ _ | refine blk_drew ?_ | refine blk_alloc ?_ _)); refine blk_far ?_ NBBD_BY.out _; (with_reducible repeat (first | refine blk_drewN ?_ _ | refine blk_drew ?_ | refine blk_alloc ?_ _)); refine blk_far ?_ NBBD_BY.out _; (with_reducible repeat (first | refine blk_drewN ?_ _ | refine blk_drew ?_ | refine blk_alloc ?_ _)); refine blk_far ?_ NBBD_BY.out _; (with_reducible repeat (first | refine blk_drewN ?_ _ | refine blk_drew ?_ | refine blk_alloc ?_ _)); refine blk_far ?_ NBBD_BY.out _; (with_reducible repeat (first | refine blk_drewN ?_ _ | refine blk_drew ?_ | refine blk_alloc ?_ _)); exact BKBD.out) hb); have n4_ := Aside0.mk (blk_below (g := gbBY) (o := .cells #[.int .i64 tBO, .int .i64 tBP, .int .i64 tBQ, .slice Ao22 tBR.length co22, .int .i64 tBU, .int .i64 tBV, .int .i64 tBW] 47 (0, 0)) (by (with_reducible repeat (first | refine blk_drewN ?_ _ | refine blk_drew ?_ | refine blk_alloc ?_ _)); refine blk_put (cs := #[.int .i64 tBO, .int .i64 tBP, .int .i64 tBQ, .slice Ao22 tBR.length co22, .int .i64 tBU, .int .i64 tBV, .int .i64 0]) ?_ 6 _ rfl; (with_reducible repeat (first | refine blk_drewN ?_ _ | refine blk_drew ?_ | refine blk_alloc ?_ _)); refine blk_put (cs := #[.int .i64 tBO, .int .i64 tBP, .int .i64 tBQ, .slice Ao22 tBR.length co22, .int .i64 tBU, .int .i64 0, .int .i64 0]) ?_ 5 _ rfl; (with_reducible repeat (first | refine blk_drewN ?_ _ | refine blk_drew ?_ | refine blk_alloc ?_ _)); refine blk_put (cs := #[.int .i64 tBO, .int .i64 tBP, .int .i64 tBQ, .slice Ao22 tBR.length co22, .int .i64 0, .int .i64 0, .int .i64 0]) ?_ 4 _ rfl; (with_reducible repeat (first | refine blk_drewN ?_ _ | refine blk_drew ?_ | refine blk_alloc ?_ _)); refine blk_put (cs := #[.int .i64 tBO, .int .i64 tBP, .int .i64 tBQ, .slice none 0 0, .int .i64 0, .int .i64 0, .int .i64 0]) ?_ 3 _ rfl; (with_reducible repeat (first | refine blk_drewN ?_ _ | refine blk_drew ?_ | refine blk_alloc ?_ _)); refine blk_put (cs := #[.int .i64 tBO, .int .i64 tBP, .int .i64 0, .slice none 0 0, .int .i64 0, .int .i64 0, .int .i64 0]) ?_ 2 _ rfl; (with_reducible repeat (first | refine blk_drewN ?_ _ | refine blk_drew ?_ | refine blk_alloc ?_ _)); refine blk_put (cs := #[.int .i64 tBO, .int .i64 0, .int .i64 0, .slice none 0 0, .int .i64 0, .int .i64 0, .int .i64 0]) ?_ 1 _ rfl; (with_reducible repeat (first | refine blk_drewN ?_ _ | refine blk_drew ?_ | refine blk_alloc ?_ _)); refine blk_put (cs := #[.int .i64 0, .int .i64 0, .int .i64 0, .slice none 0 0, .int .i64 0, .int .i64 0, .int .i64 0]) ?_ 0 _ rfl; (with_reducible repeat (first | refine blk_drewN ?_ _ | refine blk_drew ?_ | refine blk_alloc ?_ _)); exact BKBY.out) hb); have n5_ := Aside0.mk (below_step belS hb); clear HOBK; clear HOBT; clear BKBD; clear BKBY; clear HB; have HOBK := n0_; have HOBT := n1_; have HOC4 := n2_; have BKBD := n3_; have BKBY := n4_; have HB := n5_; clear n0_ n1_ n2_ n3_ n4_ n5_; (try clear hb); (try clear hb2); (try clear hk); (try clear hi); (try clear ho0)) | ((with_reducible refine gate_dst (N := 6) rfl ?_); refine box_event ?hg (N := 6) ?hd (cs := #[.int .i64 0, .int .i64 0, .int .i64 0, .slice none 0 0, .int .i64 0, .int .i64 0, .int .i64 0]) (t := 47) ?hr ?_; (case hd => rfl); (case hg => rfl); (case hr => first | (go_simp; done) | (go_simp; rfl)); intro gbC8 hg w25 hbox hb; have n0_ := Aside0.mk (Kd.R_below (Kd.R_up HOBK.out) hb); have n1_ := Aside0.mk (Kd.R_below (Kd.R_up HOBT.out) hb); have n2_ := Aside0.mk (Kd.R_below (Kd.R_up HOC4.out) hb); have n3_ := Aside0.mk (blk_below (blk_up BKBD.out) hb); have n4_ := Aside0.mk (blk_below (blk_up BKBY.out) hb); have n5_ := Aside0.mk (below_step belS hb); have n6_ := Aside0.mk (hbox); have n7_ := Aside0.mk ((by rw [hg]; exact (below_size belS) : w.heap.size ≤ gbC8)); have n8_ := n7_; have n9_ := Aside0.mk ((by rw [hg]; exact Nat.ne_of_lt (blk_lt (blk_up BKBD.out)) : gbBD ≠ gbC8)); have n10_ := Aside0.mk ((by rw [hg]; exact Nat.ne_of_gt (blk_lt (blk_up BKBD.out)) : gbC8 ≠ gbBD)); have n11_ := Aside0.mk ((by rw [hg]; exact Nat.ne_of_lt (blk_lt (blk_up BKBY.out)) : gbBY ≠ gbC8)); have n12_ := Aside0.mk ((by rw [hg]; exact Nat.ne_of_gt (blk_lt (blk_up BKBY.out)) : gbC8 ≠ gbBY)); clear HOBK; clear HOBT; clear HOC4; clear BKBD; clear BKBY; clear HB; have HOBK := n0_; have HOBT := n1_; have HOC4 := n2_; have BKBD := n3_; have BKBY := n4_; have HB := n5_; have BKC8 := n6_; have GWC8 := n7_; have GEC8 := n8_; have NBBD_C8 := n9_; have NBC8_BD := n10_; have NBBY_C8 := n11_; have NBC8_BY := n12_; clear n0_ n1_ n2_ n3_ n4_ n5_ n6_ n7_ n8_ n9_ n10_ n11_ n12_; clear hb hbox hg; have hnb26 := NBC8_BD.out; have hnc26 := NBBD_C8.out; have hnb27 := NBC8_BY.out; have hnc27 := NBBY_C8.out; obtain ⟨hcz28_0, hcz28_1, hcz28_2, hcz28_3, hcz28_4, hcz28_5, hcz28_6, hfz28_0, hfz28_1, hfz28_2, hfz28_3, hfz28_4, hfz28_5, hfz28_6⟩ := blk7 BKC8.out; obtain ⟨Ao29, co29, eo29⟩ := Kd.R_slice HOC4.out; subst eo29) | ((with_reducible refine gate_callee (f := 74) rfl ?_); refine goesL_ (some 29) rfl rfl Try.func74 (by kernel_rfl) rfl #[.agg #[.int .i64 tBZ, .int .i64 tC0, .int .i64 tC1, .slice Ao29 tC2.length co29, .int .i64 tC5, .int .i64 tC6, .int .i64 tC7]] rfl argS ?_; (with_reducible refine (impl_OtherRace.calls k tBZ tC0 tC1 _ _ tC2 tC5 tC6 tC7 tC9 tCa tCb tCc tCf tCg tCh tCi _ ?side1 ?side2 A10.out).mono ?_); (case side1 => refine (Kd.R_reads' (e := 27) (base := w.heap.size) (ok := fun k_ => ((True ∧ some k_ ≠ (.slice Ao17 tBI.length co17 : Value).ownBlock) ∧ some k_ ≠ (.slice Ao22 tBR.length co22 : Value).ownBlock)) (n := tC2.length) (c := co29) ?_).2.2; exact (by (with_reducible repeat (first | apply Kd.R_alloc | apply Kd.R_drewN | apply Kd.R_drew)); exact (Kd.R_mono (Kd.R_far (p := ⟨gbC8, 6, none⟩) (Kd.R_far (p := ⟨gbC8, 5, none⟩) (Kd.R_far (p := ⟨gbC8, 4, none⟩) (Kd.R_far (p := ⟨gbC8, 3, none⟩) (Kd.R_far (p := ⟨gbC8, 2, none⟩) (Kd.R_far (p := ⟨gbC8, 1, none⟩) (Kd.R_far (p := ⟨gbC8, 0, none⟩) (Kd.R_types HOC4.out BKC8.out (by decide)) (fun _ hk => hk.2) (.int .i64 tBZ)) (fun _ hk => hk.2) (.int .i64 tC0)) (fun _ hk => hk.2) (.int .i64 tC1)) (fun _ hk => hk.2) (.slice Ao29 tC2.length co29)) (fun _ hk => hk.2) (.int .i64 tC5)) (fun _ hk => hk.2) (.int .i64 tC6)) (fun _ hk => hk.2) (.int .i64 tC7)) (fun _ h_ => h_.1)))); (case side2 => exact (Kd.R_reads' HOC4.out).2.1); rintro e w30 ⟨vCd, rfl, ho0, hb⟩; refine ⟨_, rfl, ?_⟩; have n0_ := Aside0.mk (Kd.R_elder' (by (with_reducible repeat (first | apply Kd.R_alloc | apply Kd.R_drewN | apply Kd.R_drew)); exact (Kd.R_mono (Kd.R_far (p := ⟨gbC8, 6, none⟩) (Kd.R_far (p := ⟨gbC8, 5, none⟩) (Kd.R_far (p := ⟨gbC8, 4, none⟩) (Kd.R_far (p := ⟨gbC8, 3, none⟩) (Kd.R_far (p := ⟨gbC8, 2, none⟩) (Kd.R_far (p := ⟨gbC8, 1, none⟩) (Kd.R_far (p := ⟨gbC8, 0, none⟩) (Kd.R_types HOBK.out BKC8.out (by decide)) (fun _ hk => hk.2) (.int .i64 tBZ)) (fun _ hk => hk.2) (.int .i64 tC0)) (fun _ hk => hk.2) (.int .i64 tC1)) (fun _ hk => hk.2) (.slice Ao29 tC2.length co29)) (fun _ hk => hk.2) (.int .i64 tC5)) (fun _ hk => hk.2) (.int .i64 tC6)) (fun _ hk => hk.2) (.int .i64 tC7)) (fun _ h_ => h_.1))) (Kd.R_base ho0) hb); have n1_ := Aside0.mk (Kd.R_elder' (by (with_reducible repeat (first | apply Kd.R_alloc | apply Kd.R_drewN | apply Kd.R_drew)); exact (Kd.R_mono (Kd.R_far (p := ⟨gbC8, 6, none⟩) (Kd.R_far (p := ⟨gbC8, 5, none⟩) (Kd.R_far (p := ⟨gbC8, 4, none⟩) (Kd.R_far (p := ⟨gbC8, 3, none⟩) (Kd.R_far (p := ⟨gbC8, 2, none⟩) (Kd.R_far (p := ⟨gbC8, 1, none⟩) (Kd.R_far (p := ⟨gbC8, 0, none⟩) (Kd.R_types HOBT.out BKC8.out (by decide)) (fun _ hk => hk.2) (.int .i64 tBZ)) (fun _ hk => hk.2) (.int .i64 tC0)) (fun _ hk => hk.2) (.int .i64 tC1)) (fun _ hk => hk.2) (.slice Ao29 tC2.length co29)) (fun _ hk => hk.2) (.int .i64 tC5)) (fun _ hk => hk.2) (.int .i64 tC6)) (fun _ hk => hk.2) (.int .i64 tC7)) (fun _ h_ => h_.1))) (Kd.R_base ho0) hb); have n2_ := Aside0.mk (Kd.R_elder' (by (with_reducible repeat (first | apply Kd.R_alloc | apply Kd.R_drewN | apply Kd.R_drew)); exact (Kd.R_mono (Kd.R_far (p := ⟨gbC8, 6, none⟩) (Kd.R_far (p := ⟨gbC8, 5, none⟩) (Kd.R_far (p := ⟨gbC8, 4, none⟩) (Kd.R_far (p := ⟨gbC8, 3, none⟩) (Kd.R_far (p := ⟨gbC8, 2, none⟩) (Kd.R_far (p := ⟨gbC8, 1, none⟩) (Kd.R_far (p := ⟨gbC8, 0, none⟩) (Kd.R_types HOC4.out BKC8.out (by decide)) (fun _ hk => hk.2) (.int .i64 tBZ)) (fun _ hk => hk.2) (.int .i64 tC0)) (fun _ hk => hk.2) (.int .i64 tC1)) (fun _ hk => hk.2) (.slice Ao29 tC2.length co29)) (fun _ hk => hk.2) (.int .i64 tC5)) (fun _ hk => hk.2) (.int .i64 tC6)) (fun _ hk => hk.2) (.int .i64 tC7)) (fun _ h_ => h_.1))) (Kd.R_base ho0) hb); have n3_ := Aside0.mk (Kd.R_lower (Kd.R_new' (Kd.R_new' (Kd.R_new' ho0 (Kd.R_lt (by (with_reducible repeat (first | apply Kd.R_alloc | apply Kd.R_drewN | apply Kd.R_drew)); exact (Kd.R_mono (Kd.R_far (p := ⟨gbC8, 6, none⟩) (Kd.R_far (p := ⟨gbC8, 5, none⟩) (Kd.R_far (p := ⟨gbC8, 4, none⟩) (Kd.R_far (p := ⟨gbC8, 3, none⟩) (Kd.R_far (p := ⟨gbC8, 2, none⟩) (Kd.R_far (p := ⟨gbC8, 1, none⟩) (Kd.R_far (p := ⟨gbC8, 0, none⟩) (Kd.R_types HOBK.out BKC8.out (by decide)) (fun _ hk => hk.2) (.int .i64 tBZ)) (fun _ hk => hk.2) (.int .i64 tC0)) (fun _ hk => hk.2) (.int .i64 tC1)) (fun _ hk => hk.2) (.slice Ao29 tC2.length co29)) (fun _ hk => hk.2) (.int .i64 tC5)) (fun _ hk => hk.2) (.int .i64 tC6)) (fun _ hk => hk.2) (.int .i64 tC7)) (fun _ h_ => h_.1))))) (Kd.R_lt (by (with_reducible repeat (first | apply Kd.R_alloc | apply Kd.R_drewN | apply Kd.R_drew)); exact (Kd.R_mono (Kd.R_far (p := ⟨gbC8, 6, none⟩) (Kd.R_far (p := ⟨gbC8, 5, none⟩) (Kd.R_far (p := ⟨gbC8, 4, none⟩) (Kd.R_far (p := ⟨gbC8, 3, none⟩) (Kd.R_far (p := ⟨gbC8, 2, none⟩) (Kd.R_far (p := ⟨gbC8, 1, none⟩) (Kd.R_far (p := ⟨gbC8, 0, none⟩) (Kd.R_types HOBT.out BKC8.out (by decide)) (fun _ hk => hk.2) (.int .i64 tBZ)) (fun _ hk => hk.2) (.int .i64 tC0)) (fun _ hk => hk.2) (.int .i64 tC1)) (fun _ hk => hk.2) (.slice Ao29 tC2.length co29)) (fun _ hk => hk.2) (.int .i64 tC5)) (fun _ hk => hk.2) (.int .i64 tC6)) (fun _ hk => hk.2) (.int .i64 tC7)) (fun _ h_ => h_.1))))) (Kd.R_lt (by (with_reducible repeat (first | apply Kd.R_alloc | apply Kd.R_drewN | apply Kd.R_drew)); exact (Kd.R_mono (Kd.R_far (p := ⟨gbC8, 6, none⟩) (Kd.R_far (p := ⟨gbC8, 5, none⟩) (Kd.R_far (p := ⟨gbC8, 4, none⟩) (Kd.R_far (p := ⟨gbC8, 3, none⟩) (Kd.R_far (p := ⟨gbC8, 2, none⟩) (Kd.R_far (p := ⟨gbC8, 1, none⟩) (Kd.R_far (p := ⟨gbC8, 0, none⟩) (Kd.R_types HOC4.out BKC8.out (by decide)) (fun _ hk => hk.2) (.int .i64 tBZ)) (fun _ hk => hk.2) (.int .i64 tC0)) (fun _ hk => hk.2) (.int .i64 tC1)) (fun _ hk => hk.2) (.slice Ao29 tC2.length co29)) (fun _ hk => hk.2) (.int .i64 tC5)) (fun _ hk => hk.2) (.int .i64 tC6)) (fun _ hk => hk.2) (.int .i64 tC7)) (fun _ h_ => h_.1))))) (below_size belS)); have n4_ := Aside0.mk (blk_below (g := gbBD) (o := .cells #[.int .i64 a0_0, .int .i64 a0_1, .int .i64 a0_2, .slice A0_3 l0_3.length c0_3, .int .i64 a0_4, .int .i64 a0_5, .int .i64 a0_6] 43 (0, 0)) (by (with_reducible repeat (first | refine blk_drewN ?_ _ | refine blk_drew ?_ | refine blk_alloc ?_ _)); refine blk_far ?_ NBBD_C8.out _; (with_reducible repeat (first | refine blk_drewN ?_ _ | refine blk_drew ?_ | refine blk_alloc ?_ _)); refine blk_far ?_ NBBD_C8.out _; (with_reducible repeat (first | refine blk_drewN ?_ _ | refine blk_drew ?_ | refine blk_alloc ?_ _)); refine blk_far ?_ NBBD_C8.out _; (with_reducible repeat (first | refine blk_drewN ?_ _ | refine blk_drew ?_ | refine blk_alloc ?_ _)); refine blk_far ?_ NBBD_C8.out _; (with_reducible repeat (first | refine blk_drewN ?_ _ | refine blk_drew ?_ | refine blk_alloc ?_ _)); refine blk_far ?_ NBBD_C8.out _; (with_reducible repeat (first | refine blk_drewN ?_ _ | refine blk_drew ?_ | refine blk_alloc ?_ _)); refine blk_far ?_ NBBD_C8.out _; (with_reducible repeat (first | refine blk_drewN ?_ _ | refine blk_drew ?_ | refine blk_alloc ?_ _)); refine blk_far ?_ NBBD_C8.out _; (with_reducible repeat (first | refine blk_drewN ?_ _ | refine blk_drew ?_ | refine blk_alloc ?_ _)); exact BKBD.out) hb); have n5_ := Aside0.mk (blk_below (g := gbBY) (o := .cells #[.int .i64 tBO, .int .i64 tBP, .int .i64 tBQ, .slice Ao22 tBR.length co22, .int .i64 tBU, .int .i64 tBV, .int .i64 tBW] 47 (0, 0)) (by (with_reducible repeat (first | refine blk_drewN ?_ _ | refine blk_drew ?_ | refine blk_alloc ?_ _)); refine blk_far ?_ NBBY_C8.out _; (with_reducible repeat (first | refine blk_drewN ?_ _ | refine blk_drew ?_ | refine blk_alloc ?_ _)); refine blk_far ?_ NBBY_C8.out _; (with_reducible repeat (first | refine blk_drewN ?_ _ | refine blk_drew ?_ | refine blk_alloc ?_ _)); refine blk_far ?_ NBBY_C8.out _; (with_reducible repeat (first | refine blk_drewN ?_ _ | refine blk_drew ?_ | refine blk_alloc ?_ _)); refine blk_far ?_ NBBY_C8.out _; (with_reducible repeat (first | refine blk_drewN ?_ _ | refine blk_drew ?_ | refine blk_alloc ?_ _)); refine blk_far ?_ NBBY_C8.out _; (with_reducible repeat (first | refine blk_drewN ?_ _ | refine blk_drew ?_ | refine blk_alloc ?_ _)); refine blk_far ?_ NBBY_C8.out _; (with_reducible repeat (first | refine blk_drewN ?_ _ | refine blk_drew ?_ | refine blk_alloc ?_ _)); refine blk_far ?_ NBBY_C8.out _; (with_reducible repeat (first | refine blk_drewN ?_ _ | refine blk_drew ?_ | refine blk_alloc ?_ _)); exact BKBY.out) hb); have n6_ := Aside0.mk (blk_below (g := gbC8) (o := .cells #[.int .i64 tBZ, .int .i64 tC0, .int .i64 tC1, .slice Ao29 tC2.length co29, .int .i64 tC5, .int .i64 tC6, .int .i64 tC7] 47 (0, 0)) (by (with_reducible repeat (first | refine blk_drewN ?_ _ | refine blk_drew ?_ | refine blk_alloc ?_ _)); refine blk_put (cs := #[.int .i64 tBZ, .int .i64 tC0, .int .i64 tC1, .slice Ao29 tC2.length co29, .int .i64 tC5, .int .i64 tC6, .int .i64 0]) ?_ 6 _ rfl; (with_reducible repeat (first | refine blk_drewN ?_ _ | refine blk_drew ?_ | refine blk_alloc ?_ _)); refine blk_put (cs := #[.int .i64 tBZ, .int .i64 tC0, .int .i64 tC1, .slice Ao29 tC2.length co29, .int .i64 tC5, .int .i64 0, .int .i64 0]) ?_ 5 _ rfl; (with_reducible repeat (first | refine blk_drewN ?_ _ | refine blk_drew ?_ | refine blk_alloc ?_ _)); refine blk_put (cs := #[.int .i64 tBZ, .int .i64 tC0, .int .i64 tC1, .slice Ao29 tC2.length co29, .int .i64 0, .int .i64 0, .int .i64 0]) ?_ 4 _ rfl; (with_reducible repeat (first | refine blk_drewN ?_ _ | refine blk_drew ?_ | refine blk_alloc ?_ _)); refine blk_put (cs := #[.int .i64 tBZ, .int .i64 tC0, .int .i64 tC1, .slice none 0 0, .int .i64 0, .int .i64 0, .int .i64 0]) ?_ 3 _ rfl; (with_reducible repeat (first | refine blk_drewN ?_ _ | refine blk_drew ?_ | refine blk_alloc ?_ _)); refine blk_put (cs := #[.int .i64 tBZ, .int .i64 tC0, .int .i64 0, .slice none 0 0, .int .i64 0, .int .i64 0, .int .i64 0]) ?_ 2 _ rfl; (with_reducible repeat (first | refine blk_drewN ?_ _ | refine blk_drew ?_ | refine blk_alloc ?_ _)); refine blk_put (cs := #[.int .i64 tBZ, .int .i64 0, .int .i64 0, .slice none 0 0, .int .i64 0, .int .i64 0, .int .i64 0]) ?_ 1 _ rfl; (with_reducible repeat (first | refine blk_drewN ?_ _ | refine blk_drew ?_ | refine blk_alloc ?_ _)); refine blk_put (cs := #[.int .i64 0, .int .i64 0, .int .i64 0, .slice none 0 0, .int .i64 0, .int .i64 0, .int .i64 0]) ?_ 0 _ rfl; (with_reducible repeat (first | refine blk_drewN ?_ _ | refine blk_drew ?_ | refine blk_alloc ?_ _)); exact BKC8.out) hb); have n7_ := Aside0.mk (below_step belS hb); clear HOBK; clear HOBT; clear HOC4; clear BKBD; clear BKBY; clear BKC8; clear HB; have HOBK := n0_; have HOBT := n1_; have HOC4 := n2_; have HOCe := n3_; have BKBD := n4_; have BKBY := n5_; have BKC8 := n6_; have HB := n7_; clear n0_ n1_ n2_ n3_ n4_ n5_ n6_ n7_; (try clear hb); (try clear hb2); (try clear hk); (try clear hi); (try clear ho0)) | ((with_reducible refine gate_dst (N := 7) rfl ?_); refine box_event ?hg (N := 7) ?hd (cs := #[.int .i64 0, .int .i64 0, .int .i64 0, .slice none 0 0, .int .i64 0, .int .i64 0, .int .i64 0]) (t := 47) ?hr ?_; (case hd => rfl); (case hg => rfl); (case hr => first | (go_simp; done) | (go_simp; rfl)); intro gbCj hg w31 hbox hb; have n0_ := Aside0.mk (Kd.R_below (Kd.R_up HOBK.out) hb); have n1_ := Aside0.mk (Kd.R_below (Kd.R_up HOBT.out) hb); have n2_ := Aside0.mk (Kd.R_below (Kd.R_up HOC4.out) hb); have n3_ := Aside0.mk (Kd.R_below (Kd.R_up HOCe.out) hb); have n4_ := Aside0.mk (blk_below (blk_up BKBD.out) hb); have n5_ := Aside0.mk (blk_below (blk_up BKBY.out) hb); have n6_ := Aside0.mk (blk_below (blk_up BKC8.out) hb); have n7_ := Aside0.mk (below_step belS hb); have n8_ := Aside0.mk (hbox); have n9_ := Aside0.mk ((by rw [hg]; exact (below_size belS) : w.heap.size ≤ gbCj)); have n10_ := n9_; have n11_ := Aside0.mk ((by rw [hg]; exact Nat.ne_of_lt (blk_lt (blk_up BKBD.out)) : gbBD ≠ gbCj)); have n12_ := Aside0.mk ((by rw [hg]; exact Nat.ne_of_gt (blk_lt (blk_up BKBD.out)) : gbCj ≠ gbBD)); have n13_ := Aside0.mk ((by rw [hg]; exact Nat.ne_of_lt (blk_lt (blk_up BKBY.out)) : gbBY ≠ gbCj)); have n14_ := Aside0.mk ((by rw [hg]; exact Nat.ne_of_gt (blk_lt (blk_up BKBY.out)) : gbCj ≠ gbBY)); have n15_ := Aside0.mk ((by rw [hg]; exact Nat.ne_of_lt (blk_lt (blk_up BKC8.out)) : gbC8 ≠ gbCj)); have n16_ := Aside0.mk ((by rw [hg]; exact Nat.ne_of_gt (blk_lt (blk_up BKC8.out)) : gbCj ≠ gbC8)); clear HOBK; clear HOBT; clear HOC4; clear HOCe; clear BKBD; clear BKBY; clear BKC8; clear HB; have HOBK := n0_; have HOBT := n1_; have HOC4 := n2_; have HOCe := n3_; have BKBD := n4_; have BKBY := n5_; have BKC8 := n6_; have HB := n7_; have BKCj := n8_; have GWCj := n9_; have GECj := n10_; have NBBD_Cj := n11_; have NBCj_BD := n12_; have NBBY_Cj := n13_; have NBCj_BY := n14_; have NBC8_Cj := n15_; have NBCj_C8 := n16_; clear n0_ n1_ n2_ n3_ n4_ n5_ n6_ n7_ n8_ n9_ n10_ n11_ n12_ n13_ n14_ n15_ n16_; clear hb hbox hg; have hnb32 := NBCj_BD.out; have hnc32 := NBBD_Cj.out; have hnb33 := NBCj_BY.out; have hnc33 := NBBY_Cj.out; have hnb34 := NBCj_C8.out; have hnc34 := NBC8_Cj.out; obtain ⟨hcz35_0, hcz35_1, hcz35_2, hcz35_3, hcz35_4, hcz35_5, hcz35_6, hfz35_0, hfz35_1, hfz35_2, hfz35_3, hfz35_4, hfz35_5, hfz35_6⟩ := blk7 BKCj.out; obtain ⟨Ao36, co36, eo36⟩ := Kd.R_slice HOCe.out; subst eo36))
  (try simp only [Act.put, List.setIfInBounds_toArray, List.set_cons_zero, List.set_cons_succ])
  go_cut [40] (fun v40 wc => ∃ (kq : Nat) (x40_10 : Bool), v40 = .bool x40_10 ∧ Aside0 (laws_FnExactOtherRace.j0 kq tBX tCi x40_10 a0_0 a0_1 a0_2 l0_3 a0_4 a0_5 a0_6 tBO tBP tBQ tBR tBU tBV tBW tBZ tC0 tC1 tC2 tC5 tC6 tC7 tC9 tCa tCb tCc tCf tCg tCh = some r) ∧ Aside0 (kq ≤ k) ∧ Aside0 (Kd.R k27 27 wc w.heap.size (fun k_ => some k_ ≠ ((.slice Ao29 tC2.length co29) : Value).ownBlock ∧ some k_ ≠ ((.slice Ao36 tCc.length co36) : Value).ownBlock) (.slice Ao22 tBR.length co22) tBR) ∧ Aside0 (Kd.R k27 27 wc w.heap.size (fun k_ => some k_ ≠ ((.slice Ao22 tBR.length co22) : Value).ownBlock ∧ some k_ ≠ ((.slice Ao36 tCc.length co36) : Value).ownBlock) (.slice Ao29 tC2.length co29) tC2) ∧ Aside0 (Kd.R k27 27 wc w.heap.size (fun k_ => some k_ ≠ ((.slice Ao22 tBR.length co22) : Value).ownBlock ∧ some k_ ≠ ((.slice Ao29 tC2.length co29) : Value).ownBlock) (.slice Ao36 tCc.length co36) tCc) ∧ Aside0 (wc.heap[gbBD]? = some (.cells #[.int .i64 a0_0, .int .i64 a0_1, .int .i64 a0_2, (.slice A0_3 l0_3.length c0_3), .int .i64 a0_4, .int .i64 a0_5, .int .i64 a0_6] 43 (0, 0))) ∧ Aside0 (wc.heap[gbBY]? = some (.cells #[.int .i64 tBO, .int .i64 tBP, .int .i64 tBQ, (.slice Ao22 tBR.length co22), .int .i64 tBU, .int .i64 tBV, .int .i64 tBW] 47 (0, 0))) ∧ Aside0 (wc.heap[gbC8]? = some (.cells #[.int .i64 tBZ, .int .i64 tC0, .int .i64 tC1, (.slice Ao29 tC2.length co29), .int .i64 tC5, .int .i64 tC6, .int .i64 tC7] 47 (0, 0))) ∧ Aside0 (wc.heap[gbCj]? = some (.cells #[.int .i64 tC9, .int .i64 tCa, .int .i64 tCb, (.slice Ao36 tCc.length co36), .int .i64 tCf, .int .i64 tCg, .int .i64 tCh] 47 (0, 0))) ∧ Aside0 (Below w.heap.size w wc))
  case first =>
   have H := HC11.out
   clear HC11
   replace H := Option.bind_eq_some_iff.mp H
   obtain ⟨tCk, A370, H⟩ := H
   replace H : (if tCk = true then (laws_FnExactOtherRace.j0 k tBX tCi (tCi != tBX) a0_0 a0_1 a0_2 l0_3 a0_4 a0_5 a0_6 tBO tBP tBQ tBR tBU tBV tBW tBZ tC0 tC1 tC2 tC5 tC6 tC7 tC9 tCa tCb tCc tCf tCg tCh) else (laws_FnExactOtherRace.j0 k tBX tCi true a0_0 a0_1 a0_2 l0_3 a0_4 a0_5 a0_6 tBO tBP tBQ tBR tBU tBV tBW tBZ tC0 tC1 tC2 tC5 tC6 tC7 tC9 tCa tCb tCc tCf tCg tCh)) = some r := H
   have A37 := Aside0.mk A370
   clear A370
   by_cases c38 : tCk = true
   ·subst c38
    have H1 : (laws_FnExactOtherRace.j0 k tBX tCi (tCi != tBX) a0_0 a0_1 a0_2 l0_3 a0_4 a0_5 a0_6 tBO tBP tBQ tBR tBU tBV tBW tBZ tC0 tC1 tC2 tC5 tC6 tC7 tC9 tCa tCb tCc tCf tCg tCh) = some r := by rw [if_pos rfl] at H; exact H
    clear H
    have H := H1
    clear H1
    have H' := Aside0.mk H
    clear H
    have hnb39 := NBCj_BD.out
    have hnc39 := NBBD_Cj.out
    have hnb40 := NBCj_BY.out
    have hnc40 := NBBY_Cj.out
    have hnb41 := NBCj_C8.out
    have hnc41 := NBC8_Cj.out
    obtain ⟨hcz42_0, hcz42_1, hcz42_2, hcz42_3, hcz42_4, hcz42_5, hcz42_6, hfz42_0, hfz42_1, hfz42_2, hfz42_3, hfz42_4, hfz42_5, hfz42_6⟩ := blk7 BKCj.out
    have hnb43 := NBBY_BD.out
    have hnc43 := NBBD_BY.out
    have hnb44 := NBBY_C8.out
    have hnc44 := NBC8_BY.out
    obtain ⟨hcz45_0, hcz45_1, hcz45_2, hcz45_3, hcz45_4, hcz45_5, hcz45_6, hfz45_0, hfz45_1, hfz45_2, hfz45_3, hfz45_4, hfz45_5, hfz45_6⟩ := blk7 BKBY.out
    go_wp2_with (first | ((with_reducible refine gate_callee (f := 53) rfl ?_); refine goesL_ (some 34) rfl rfl Try.func53 (by kernel_rfl) rfl #[.agg #[.int .i64 tC9, .int .i64 tCa, .int .i64 tCb, .slice Ao36 tCc.length co36, .int .i64 tCf, .int .i64 tCg, .int .i64 tCh], .agg #[.int .i64 tBO, .int .i64 tBP, .int .i64 tBQ, .slice Ao22 tBR.length co22, .int .i64 tBU, .int .i64 tBV, .int .i64 tBW]] rfl argS ?_; (with_reducible refine (laws_eqRace.calls k tC9 tCa tCb _ _ tCc tCf tCg tCh tBO tBP tBQ _ _ tBR tBU tBV tBW true _ ?side1 ?side2 ?side3 ?side4 A37.out).mono ?_); (case side1 => refine (Kd.R_reads' (e := 27) (base := w.heap.size) (ok := fun k_ => (((True ∧ some k_ ≠ (.slice Ao17 tBI.length co17 : Value).ownBlock) ∧ some k_ ≠ (.slice Ao22 tBR.length co22 : Value).ownBlock) ∧ some k_ ≠ (.slice Ao29 tC2.length co29 : Value).ownBlock)) (n := tCc.length) (c := co36) ?_).2.2; exact (by (with_reducible repeat (first | apply Kd.R_alloc | apply Kd.R_drewN | apply Kd.R_drew)); exact (Kd.R_mono (Kd.R_far (p := ⟨gbCj, 6, none⟩) (Kd.R_far (p := ⟨gbCj, 5, none⟩) (Kd.R_far (p := ⟨gbCj, 4, none⟩) (Kd.R_far (p := ⟨gbCj, 3, none⟩) (Kd.R_far (p := ⟨gbCj, 2, none⟩) (Kd.R_far (p := ⟨gbCj, 1, none⟩) (Kd.R_far (p := ⟨gbCj, 0, none⟩) (Kd.R_types HOCe.out BKCj.out (by decide)) (fun _ hk => hk.2) (.int .i64 tC9)) (fun _ hk => hk.2) (.int .i64 tCa)) (fun _ hk => hk.2) (.int .i64 tCb)) (fun _ hk => hk.2) (.slice Ao36 tCc.length co36)) (fun _ hk => hk.2) (.int .i64 tCf)) (fun _ hk => hk.2) (.int .i64 tCg)) (fun _ hk => hk.2) (.int .i64 tCh)) (fun _ h_ => h_.1)))); (case side2 => exact (Kd.R_reads' HOCe.out).2.1); (case side3 => refine (Kd.R_reads' (e := 27) (base := w.heap.size) (ok := fun k_ => (((True ∧ some k_ ≠ (.slice Ao17 tBI.length co17 : Value).ownBlock) ∧ some k_ ≠ (.slice Ao29 tC2.length co29 : Value).ownBlock) ∧ some k_ ≠ (.slice Ao36 tCc.length co36 : Value).ownBlock)) (n := tBR.length) (c := co22) ?_).2.2; exact (by (with_reducible repeat (first | apply Kd.R_alloc | apply Kd.R_drewN | apply Kd.R_drew)); exact (Kd.R_mono (Kd.R_far (p := ⟨gbCj, 6, none⟩) (Kd.R_far (p := ⟨gbCj, 5, none⟩) (Kd.R_far (p := ⟨gbCj, 4, none⟩) (Kd.R_far (p := ⟨gbCj, 3, none⟩) (Kd.R_far (p := ⟨gbCj, 2, none⟩) (Kd.R_far (p := ⟨gbCj, 1, none⟩) (Kd.R_far (p := ⟨gbCj, 0, none⟩) (Kd.R_types HOBT.out BKCj.out (by decide)) (fun _ hk => hk.2) (.int .i64 tC9)) (fun _ hk => hk.2) (.int .i64 tCa)) (fun _ hk => hk.2) (.int .i64 tCb)) (fun _ hk => hk.2) (.slice Ao36 tCc.length co36)) (fun _ hk => hk.2) (.int .i64 tCf)) (fun _ hk => hk.2) (.int .i64 tCg)) (fun _ hk => hk.2) (.int .i64 tCh)) (fun _ h_ => h_.1)))); (case side4 => exact (Kd.R_reads' HOBT.out).2.1); rintro e w46 ⟨rfl, hb⟩; refine ⟨_, rfl, ?_⟩; have n0_ := Aside0.mk (Kd.R_below (by (with_reducible repeat (first | apply Kd.R_alloc | apply Kd.R_drewN | apply Kd.R_drew)); exact (Kd.R_mono (Kd.R_far (p := ⟨gbCj, 6, none⟩) (Kd.R_far (p := ⟨gbCj, 5, none⟩) (Kd.R_far (p := ⟨gbCj, 4, none⟩) (Kd.R_far (p := ⟨gbCj, 3, none⟩) (Kd.R_far (p := ⟨gbCj, 2, none⟩) (Kd.R_far (p := ⟨gbCj, 1, none⟩) (Kd.R_far (p := ⟨gbCj, 0, none⟩) (Kd.R_types HOBK.out BKCj.out (by decide)) (fun _ hk => hk.2) (.int .i64 tC9)) (fun _ hk => hk.2) (.int .i64 tCa)) (fun _ hk => hk.2) (.int .i64 tCb)) (fun _ hk => hk.2) (.slice Ao36 tCc.length co36)) (fun _ hk => hk.2) (.int .i64 tCf)) (fun _ hk => hk.2) (.int .i64 tCg)) (fun _ hk => hk.2) (.int .i64 tCh)) (fun _ h_ => h_.1))) hb); have n1_ := Aside0.mk (Kd.R_below (by (with_reducible repeat (first | apply Kd.R_alloc | apply Kd.R_drewN | apply Kd.R_drew)); exact (Kd.R_mono (Kd.R_far (p := ⟨gbCj, 6, none⟩) (Kd.R_far (p := ⟨gbCj, 5, none⟩) (Kd.R_far (p := ⟨gbCj, 4, none⟩) (Kd.R_far (p := ⟨gbCj, 3, none⟩) (Kd.R_far (p := ⟨gbCj, 2, none⟩) (Kd.R_far (p := ⟨gbCj, 1, none⟩) (Kd.R_far (p := ⟨gbCj, 0, none⟩) (Kd.R_types HOBT.out BKCj.out (by decide)) (fun _ hk => hk.2) (.int .i64 tC9)) (fun _ hk => hk.2) (.int .i64 tCa)) (fun _ hk => hk.2) (.int .i64 tCb)) (fun _ hk => hk.2) (.slice Ao36 tCc.length co36)) (fun _ hk => hk.2) (.int .i64 tCf)) (fun _ hk => hk.2) (.int .i64 tCg)) (fun _ hk => hk.2) (.int .i64 tCh)) (fun _ h_ => h_.1))) hb); have n2_ := Aside0.mk (Kd.R_below (by (with_reducible repeat (first | apply Kd.R_alloc | apply Kd.R_drewN | apply Kd.R_drew)); exact (Kd.R_mono (Kd.R_far (p := ⟨gbCj, 6, none⟩) (Kd.R_far (p := ⟨gbCj, 5, none⟩) (Kd.R_far (p := ⟨gbCj, 4, none⟩) (Kd.R_far (p := ⟨gbCj, 3, none⟩) (Kd.R_far (p := ⟨gbCj, 2, none⟩) (Kd.R_far (p := ⟨gbCj, 1, none⟩) (Kd.R_far (p := ⟨gbCj, 0, none⟩) (Kd.R_types HOC4.out BKCj.out (by decide)) (fun _ hk => hk.2) (.int .i64 tC9)) (fun _ hk => hk.2) (.int .i64 tCa)) (fun _ hk => hk.2) (.int .i64 tCb)) (fun _ hk => hk.2) (.slice Ao36 tCc.length co36)) (fun _ hk => hk.2) (.int .i64 tCf)) (fun _ hk => hk.2) (.int .i64 tCg)) (fun _ hk => hk.2) (.int .i64 tCh)) (fun _ h_ => h_.1))) hb); have n3_ := Aside0.mk (Kd.R_below (by (with_reducible repeat (first | apply Kd.R_alloc | apply Kd.R_drewN | apply Kd.R_drew)); exact (Kd.R_mono (Kd.R_far (p := ⟨gbCj, 6, none⟩) (Kd.R_far (p := ⟨gbCj, 5, none⟩) (Kd.R_far (p := ⟨gbCj, 4, none⟩) (Kd.R_far (p := ⟨gbCj, 3, none⟩) (Kd.R_far (p := ⟨gbCj, 2, none⟩) (Kd.R_far (p := ⟨gbCj, 1, none⟩) (Kd.R_far (p := ⟨gbCj, 0, none⟩) (Kd.R_types HOCe.out BKCj.out (by decide)) (fun _ hk => hk.2) (.int .i64 tC9)) (fun _ hk => hk.2) (.int .i64 tCa)) (fun _ hk => hk.2) (.int .i64 tCb)) (fun _ hk => hk.2) (.slice Ao36 tCc.length co36)) (fun _ hk => hk.2) (.int .i64 tCf)) (fun _ hk => hk.2) (.int .i64 tCg)) (fun _ hk => hk.2) (.int .i64 tCh)) (fun _ h_ => h_.1))) hb); have n4_ := Aside0.mk (blk_below (g := gbBD) (o := .cells #[.int .i64 a0_0, .int .i64 a0_1, .int .i64 a0_2, .slice A0_3 l0_3.length c0_3, .int .i64 a0_4, .int .i64 a0_5, .int .i64 a0_6] 43 (0, 0)) (by (with_reducible repeat (first | refine blk_drewN ?_ _ | refine blk_drew ?_ | refine blk_alloc ?_ _)); refine blk_far ?_ NBBD_Cj.out _; (with_reducible repeat (first | refine blk_drewN ?_ _ | refine blk_drew ?_ | refine blk_alloc ?_ _)); refine blk_far ?_ NBBD_Cj.out _; (with_reducible repeat (first | refine blk_drewN ?_ _ | refine blk_drew ?_ | refine blk_alloc ?_ _)); refine blk_far ?_ NBBD_Cj.out _; (with_reducible repeat (first | refine blk_drewN ?_ _ | refine blk_drew ?_ | refine blk_alloc ?_ _)); refine blk_far ?_ NBBD_Cj.out _; (with_reducible repeat (first | refine blk_drewN ?_ _ | refine blk_drew ?_ | refine blk_alloc ?_ _)); refine blk_far ?_ NBBD_Cj.out _; (with_reducible repeat (first | refine blk_drewN ?_ _ | refine blk_drew ?_ | refine blk_alloc ?_ _)); refine blk_far ?_ NBBD_Cj.out _; (with_reducible repeat (first | refine blk_drewN ?_ _ | refine blk_drew ?_ | refine blk_alloc ?_ _)); refine blk_far ?_ NBBD_Cj.out _; (with_reducible repeat (first | refine blk_drewN ?_ _ | refine blk_drew ?_ | refine blk_alloc ?_ _)); exact BKBD.out) hb); have n5_ := Aside0.mk (blk_below (g := gbBY) (o := .cells #[.int .i64 tBO, .int .i64 tBP, .int .i64 tBQ, .slice Ao22 tBR.length co22, .int .i64 tBU, .int .i64 tBV, .int .i64 tBW] 47 (0, 0)) (by (with_reducible repeat (first | refine blk_drewN ?_ _ | refine blk_drew ?_ | refine blk_alloc ?_ _)); refine blk_far ?_ NBBY_Cj.out _; (with_reducible repeat (first | refine blk_drewN ?_ _ | refine blk_drew ?_ | refine blk_alloc ?_ _)); refine blk_far ?_ NBBY_Cj.out _; (with_reducible repeat (first | refine blk_drewN ?_ _ | refine blk_drew ?_ | refine blk_alloc ?_ _)); refine blk_far ?_ NBBY_Cj.out _; (with_reducible repeat (first | refine blk_drewN ?_ _ | refine blk_drew ?_ | refine blk_alloc ?_ _)); refine blk_far ?_ NBBY_Cj.out _; (with_reducible repeat (first | refine blk_drewN ?_ _ | refine blk_drew ?_ | refine blk_alloc ?_ _)); refine blk_far ?_ NBBY_Cj.out _; (with_reducible repeat (first | refine blk_drewN ?_ _ | refine blk_drew ?_ | refine blk_alloc ?_ _)); refine blk_far ?_ NBBY_Cj.out _; (with_reducible repeat (first | refine blk_drewN ?_ _ | refine blk_drew ?_ | refine blk_alloc ?_ _)); refine blk_far ?_ NBBY_Cj.out _; (with_reducible repeat (first | refine blk_drewN ?_ _ | refine blk_drew ?_ | refine blk_alloc ?_ _)); exact BKBY.out) hb); have n6_ := Aside0.mk (blk_below (g := gbC8) (o := .cells #[.int .i64 tBZ, .int .i64 tC0, .int .i64 tC1, .slice Ao29 tC2.length co29, .int .i64 tC5, .int .i64 tC6, .int .i64 tC7] 47 (0, 0)) (by (with_reducible repeat (first | refine blk_drewN ?_ _ | refine blk_drew ?_ | refine blk_alloc ?_ _)); refine blk_far ?_ NBC8_Cj.out _; (with_reducible repeat (first | refine blk_drewN ?_ _ | refine blk_drew ?_ | refine blk_alloc ?_ _)); refine blk_far ?_ NBC8_Cj.out _; (with_reducible repeat (first | refine blk_drewN ?_ _ | refine blk_drew ?_ | refine blk_alloc ?_ _)); refine blk_far ?_ NBC8_Cj.out _; (with_reducible repeat (first | refine blk_drewN ?_ _ | refine blk_drew ?_ | refine blk_alloc ?_ _)); refine blk_far ?_ NBC8_Cj.out _; (with_reducible repeat (first | refine blk_drewN ?_ _ | refine blk_drew ?_ | refine blk_alloc ?_ _)); refine blk_far ?_ NBC8_Cj.out _; (with_reducible repeat (first | refine blk_drewN ?_ _ | refine blk_drew ?_ | refine blk_alloc ?_ _)); refine blk_far ?_ NBC8_Cj.out _; (with_reducible repeat (first | refine blk_drewN ?_ _ | refine blk_drew ?_ | refine blk_alloc ?_ _)); refine blk_far ?_ NBC8_Cj.out _; (with_reducible repeat (first | refine blk_drewN ?_ _ | refine blk_drew ?_ | refine blk_alloc ?_ _)); exact BKC8.out) hb); have n7_ := Aside0.mk (blk_below (g := gbCj) (o := .cells #[.int .i64 tC9, .int .i64 tCa, .int .i64 tCb, .slice Ao36 tCc.length co36, .int .i64 tCf, .int .i64 tCg, .int .i64 tCh] 47 (0, 0)) (by (with_reducible repeat (first | refine blk_drewN ?_ _ | refine blk_drew ?_ | refine blk_alloc ?_ _)); refine blk_put (cs := #[.int .i64 tC9, .int .i64 tCa, .int .i64 tCb, .slice Ao36 tCc.length co36, .int .i64 tCf, .int .i64 tCg, .int .i64 0]) ?_ 6 _ rfl; (with_reducible repeat (first | refine blk_drewN ?_ _ | refine blk_drew ?_ | refine blk_alloc ?_ _)); refine blk_put (cs := #[.int .i64 tC9, .int .i64 tCa, .int .i64 tCb, .slice Ao36 tCc.length co36, .int .i64 tCf, .int .i64 0, .int .i64 0]) ?_ 5 _ rfl; (with_reducible repeat (first | refine blk_drewN ?_ _ | refine blk_drew ?_ | refine blk_alloc ?_ _)); refine blk_put (cs := #[.int .i64 tC9, .int .i64 tCa, .int .i64 tCb, .slice Ao36 tCc.length co36, .int .i64 0, .int .i64 0, .int .i64 0]) ?_ 4 _ rfl; (with_reducible repeat (first | refine blk_drewN ?_ _ | refine blk_drew ?_ | refine blk_alloc ?_ _)); refine blk_put (cs := #[.int .i64 tC9, .int .i64 tCa, .int .i64 tCb, .slice none 0 0, .int .i64 0, .int .i64 0, .int .i64 0]) ?_ 3 _ rfl; (with_reducible repeat (first | refine blk_drewN ?_ _ | refine blk_drew ?_ | refine blk_alloc ?_ _)); refine blk_put (cs := #[.int .i64 tC9, .int .i64 tCa, .int .i64 0, .slice none 0 0, .int .i64 0, .int .i64 0, .int .i64 0]) ?_ 2 _ rfl; (with_reducible repeat (first | refine blk_drewN ?_ _ | refine blk_drew ?_ | refine blk_alloc ?_ _)); refine blk_put (cs := #[.int .i64 tC9, .int .i64 0, .int .i64 0, .slice none 0 0, .int .i64 0, .int .i64 0, .int .i64 0]) ?_ 1 _ rfl; (with_reducible repeat (first | refine blk_drewN ?_ _ | refine blk_drew ?_ | refine blk_alloc ?_ _)); refine blk_put (cs := #[.int .i64 0, .int .i64 0, .int .i64 0, .slice none 0 0, .int .i64 0, .int .i64 0, .int .i64 0]) ?_ 0 _ rfl; (with_reducible repeat (first | refine blk_drewN ?_ _ | refine blk_drew ?_ | refine blk_alloc ?_ _)); exact BKCj.out) hb); have n8_ := Aside0.mk (below_step belS hb); clear HOBK; clear HOBT; clear HOC4; clear HOCe; clear BKBD; clear BKBY; clear BKC8; clear BKCj; clear HB; have HOBK := n0_; have HOBT := n1_; have HOC4 := n2_; have HOCe := n3_; have BKBD := n4_; have BKBY := n5_; have BKC8 := n6_; have BKCj := n7_; have HB := n8_; clear n0_ n1_ n2_ n3_ n4_ n5_ n6_ n7_ n8_; (try clear hb); (try clear hb2); (try clear hk); (try clear hi)))
    go_meet
    case rel => exact ⟨_, ((tCi != tBX)), (by first | rfl | (simp; done) | (simp [*]; done)), H', ⟨by first | omega | exact Nat.le_refl _⟩, ⟨by (with_reducible repeat (first | apply Kd.R_alloc | apply Kd.R_drewN | apply Kd.R_drew)); exact Kd.R_mono HOBT.out (fun _ hk => ⟨hk.1.2, hk.2⟩)⟩, ⟨by (with_reducible repeat (first | apply Kd.R_alloc | apply Kd.R_drewN | apply Kd.R_drew)); exact Kd.R_mono HOC4.out (fun _ hk => ⟨hk.1.2, hk.2⟩)⟩, ⟨by (with_reducible repeat (first | apply Kd.R_alloc | apply Kd.R_drewN | apply Kd.R_drew)); exact Kd.R_mono HOCe.out (fun _ hk => ⟨hk.1.2, hk.2⟩)⟩, ⟨by (with_reducible repeat (first | refine blk_drewN ?_ _ | refine blk_drew ?_ | refine blk_alloc ?_ _)); exact BKBD.out⟩, ⟨by (with_reducible repeat (first | refine blk_drewN ?_ _ | refine blk_drew ?_ | refine blk_alloc ?_ _)); exact BKBY.out⟩, ⟨by (with_reducible repeat (first | refine blk_drewN ?_ _ | refine blk_drew ?_ | refine blk_alloc ?_ _)); exact BKC8.out⟩, ⟨by (with_reducible repeat (first | refine blk_drewN ?_ _ | refine blk_drew ?_ | refine blk_alloc ?_ _)); exact BKCj.out⟩, ⟨by exact belS⟩⟩
   ·replace c38 := Bool.eq_false_iff.mpr c38
    subst c38
    have H1 : (laws_FnExactOtherRace.j0 k tBX tCi true a0_0 a0_1 a0_2 l0_3 a0_4 a0_5 a0_6 tBO tBP tBQ tBR tBU tBV tBW tBZ tC0 tC1 tC2 tC5 tC6 tC7 tC9 tCa tCb tCc tCf tCg tCh) = some r := by rw [if_neg (show ¬ (false = true) by decide)] at H; exact H
    clear H
    have H := H1
    clear H1
    have H' := Aside0.mk H
    clear H
    have hnb47 := NBCj_BD.out
    have hnc47 := NBBD_Cj.out
    have hnb48 := NBCj_BY.out
    have hnc48 := NBBY_Cj.out
    have hnb49 := NBCj_C8.out
    have hnc49 := NBC8_Cj.out
    obtain ⟨hcz50_0, hcz50_1, hcz50_2, hcz50_3, hcz50_4, hcz50_5, hcz50_6, hfz50_0, hfz50_1, hfz50_2, hfz50_3, hfz50_4, hfz50_5, hfz50_6⟩ := blk7 BKCj.out
    have hnb51 := NBBY_BD.out
    have hnc51 := NBBD_BY.out
    have hnb52 := NBBY_C8.out
    have hnc52 := NBC8_BY.out
    obtain ⟨hcz53_0, hcz53_1, hcz53_2, hcz53_3, hcz53_4, hcz53_5, hcz53_6, hfz53_0, hfz53_1, hfz53_2, hfz53_3, hfz53_4, hfz53_5, hfz53_6⟩ := blk7 BKBY.out
    go_wp2_with (first | ((with_reducible refine gate_callee (f := 53) rfl ?_); refine goesL_ (some 34) rfl rfl Try.func53 (by kernel_rfl) rfl #[.agg #[.int .i64 tC9, .int .i64 tCa, .int .i64 tCb, .slice Ao36 tCc.length co36, .int .i64 tCf, .int .i64 tCg, .int .i64 tCh], .agg #[.int .i64 tBO, .int .i64 tBP, .int .i64 tBQ, .slice Ao22 tBR.length co22, .int .i64 tBU, .int .i64 tBV, .int .i64 tBW]] rfl argS ?_; (with_reducible refine (laws_eqRace.calls k tC9 tCa tCb _ _ tCc tCf tCg tCh tBO tBP tBQ _ _ tBR tBU tBV tBW false _ ?side1 ?side2 ?side3 ?side4 A37.out).mono ?_); (case side1 => refine (Kd.R_reads' (e := 27) (base := w.heap.size) (ok := fun k_ => (((True ∧ some k_ ≠ (.slice Ao17 tBI.length co17 : Value).ownBlock) ∧ some k_ ≠ (.slice Ao22 tBR.length co22 : Value).ownBlock) ∧ some k_ ≠ (.slice Ao29 tC2.length co29 : Value).ownBlock)) (n := tCc.length) (c := co36) ?_).2.2; exact (by (with_reducible repeat (first | apply Kd.R_alloc | apply Kd.R_drewN | apply Kd.R_drew)); exact (Kd.R_mono (Kd.R_far (p := ⟨gbCj, 6, none⟩) (Kd.R_far (p := ⟨gbCj, 5, none⟩) (Kd.R_far (p := ⟨gbCj, 4, none⟩) (Kd.R_far (p := ⟨gbCj, 3, none⟩) (Kd.R_far (p := ⟨gbCj, 2, none⟩) (Kd.R_far (p := ⟨gbCj, 1, none⟩) (Kd.R_far (p := ⟨gbCj, 0, none⟩) (Kd.R_types HOCe.out BKCj.out (by decide)) (fun _ hk => hk.2) (.int .i64 tC9)) (fun _ hk => hk.2) (.int .i64 tCa)) (fun _ hk => hk.2) (.int .i64 tCb)) (fun _ hk => hk.2) (.slice Ao36 tCc.length co36)) (fun _ hk => hk.2) (.int .i64 tCf)) (fun _ hk => hk.2) (.int .i64 tCg)) (fun _ hk => hk.2) (.int .i64 tCh)) (fun _ h_ => h_.1)))); (case side2 => exact (Kd.R_reads' HOCe.out).2.1); (case side3 => refine (Kd.R_reads' (e := 27) (base := w.heap.size) (ok := fun k_ => (((True ∧ some k_ ≠ (.slice Ao17 tBI.length co17 : Value).ownBlock) ∧ some k_ ≠ (.slice Ao29 tC2.length co29 : Value).ownBlock) ∧ some k_ ≠ (.slice Ao36 tCc.length co36 : Value).ownBlock)) (n := tBR.length) (c := co22) ?_).2.2; exact (by (with_reducible repeat (first | apply Kd.R_alloc | apply Kd.R_drewN | apply Kd.R_drew)); exact (Kd.R_mono (Kd.R_far (p := ⟨gbCj, 6, none⟩) (Kd.R_far (p := ⟨gbCj, 5, none⟩) (Kd.R_far (p := ⟨gbCj, 4, none⟩) (Kd.R_far (p := ⟨gbCj, 3, none⟩) (Kd.R_far (p := ⟨gbCj, 2, none⟩) (Kd.R_far (p := ⟨gbCj, 1, none⟩) (Kd.R_far (p := ⟨gbCj, 0, none⟩) (Kd.R_types HOBT.out BKCj.out (by decide)) (fun _ hk => hk.2) (.int .i64 tC9)) (fun _ hk => hk.2) (.int .i64 tCa)) (fun _ hk => hk.2) (.int .i64 tCb)) (fun _ hk => hk.2) (.slice Ao36 tCc.length co36)) (fun _ hk => hk.2) (.int .i64 tCf)) (fun _ hk => hk.2) (.int .i64 tCg)) (fun _ hk => hk.2) (.int .i64 tCh)) (fun _ h_ => h_.1)))); (case side4 => exact (Kd.R_reads' HOBT.out).2.1); rintro e w54 ⟨rfl, hb⟩; refine ⟨_, rfl, ?_⟩; have n0_ := Aside0.mk (Kd.R_below (by (with_reducible repeat (first | apply Kd.R_alloc | apply Kd.R_drewN | apply Kd.R_drew)); exact (Kd.R_mono (Kd.R_far (p := ⟨gbCj, 6, none⟩) (Kd.R_far (p := ⟨gbCj, 5, none⟩) (Kd.R_far (p := ⟨gbCj, 4, none⟩) (Kd.R_far (p := ⟨gbCj, 3, none⟩) (Kd.R_far (p := ⟨gbCj, 2, none⟩) (Kd.R_far (p := ⟨gbCj, 1, none⟩) (Kd.R_far (p := ⟨gbCj, 0, none⟩) (Kd.R_types HOBK.out BKCj.out (by decide)) (fun _ hk => hk.2) (.int .i64 tC9)) (fun _ hk => hk.2) (.int .i64 tCa)) (fun _ hk => hk.2) (.int .i64 tCb)) (fun _ hk => hk.2) (.slice Ao36 tCc.length co36)) (fun _ hk => hk.2) (.int .i64 tCf)) (fun _ hk => hk.2) (.int .i64 tCg)) (fun _ hk => hk.2) (.int .i64 tCh)) (fun _ h_ => h_.1))) hb); have n1_ := Aside0.mk (Kd.R_below (by (with_reducible repeat (first | apply Kd.R_alloc | apply Kd.R_drewN | apply Kd.R_drew)); exact (Kd.R_mono (Kd.R_far (p := ⟨gbCj, 6, none⟩) (Kd.R_far (p := ⟨gbCj, 5, none⟩) (Kd.R_far (p := ⟨gbCj, 4, none⟩) (Kd.R_far (p := ⟨gbCj, 3, none⟩) (Kd.R_far (p := ⟨gbCj, 2, none⟩) (Kd.R_far (p := ⟨gbCj, 1, none⟩) (Kd.R_far (p := ⟨gbCj, 0, none⟩) (Kd.R_types HOBT.out BKCj.out (by decide)) (fun _ hk => hk.2) (.int .i64 tC9)) (fun _ hk => hk.2) (.int .i64 tCa)) (fun _ hk => hk.2) (.int .i64 tCb)) (fun _ hk => hk.2) (.slice Ao36 tCc.length co36)) (fun _ hk => hk.2) (.int .i64 tCf)) (fun _ hk => hk.2) (.int .i64 tCg)) (fun _ hk => hk.2) (.int .i64 tCh)) (fun _ h_ => h_.1))) hb); have n2_ := Aside0.mk (Kd.R_below (by (with_reducible repeat (first | apply Kd.R_alloc | apply Kd.R_drewN | apply Kd.R_drew)); exact (Kd.R_mono (Kd.R_far (p := ⟨gbCj, 6, none⟩) (Kd.R_far (p := ⟨gbCj, 5, none⟩) (Kd.R_far (p := ⟨gbCj, 4, none⟩) (Kd.R_far (p := ⟨gbCj, 3, none⟩) (Kd.R_far (p := ⟨gbCj, 2, none⟩) (Kd.R_far (p := ⟨gbCj, 1, none⟩) (Kd.R_far (p := ⟨gbCj, 0, none⟩) (Kd.R_types HOC4.out BKCj.out (by decide)) (fun _ hk => hk.2) (.int .i64 tC9)) (fun _ hk => hk.2) (.int .i64 tCa)) (fun _ hk => hk.2) (.int .i64 tCb)) (fun _ hk => hk.2) (.slice Ao36 tCc.length co36)) (fun _ hk => hk.2) (.int .i64 tCf)) (fun _ hk => hk.2) (.int .i64 tCg)) (fun _ hk => hk.2) (.int .i64 tCh)) (fun _ h_ => h_.1))) hb); have n3_ := Aside0.mk (Kd.R_below (by (with_reducible repeat (first | apply Kd.R_alloc | apply Kd.R_drewN | apply Kd.R_drew)); exact (Kd.R_mono (Kd.R_far (p := ⟨gbCj, 6, none⟩) (Kd.R_far (p := ⟨gbCj, 5, none⟩) (Kd.R_far (p := ⟨gbCj, 4, none⟩) (Kd.R_far (p := ⟨gbCj, 3, none⟩) (Kd.R_far (p := ⟨gbCj, 2, none⟩) (Kd.R_far (p := ⟨gbCj, 1, none⟩) (Kd.R_far (p := ⟨gbCj, 0, none⟩) (Kd.R_types HOCe.out BKCj.out (by decide)) (fun _ hk => hk.2) (.int .i64 tC9)) (fun _ hk => hk.2) (.int .i64 tCa)) (fun _ hk => hk.2) (.int .i64 tCb)) (fun _ hk => hk.2) (.slice Ao36 tCc.length co36)) (fun _ hk => hk.2) (.int .i64 tCf)) (fun _ hk => hk.2) (.int .i64 tCg)) (fun _ hk => hk.2) (.int .i64 tCh)) (fun _ h_ => h_.1))) hb); have n4_ := Aside0.mk (blk_below (g := gbBD) (o := .cells #[.int .i64 a0_0, .int .i64 a0_1, .int .i64 a0_2, .slice A0_3 l0_3.length c0_3, .int .i64 a0_4, .int .i64 a0_5, .int .i64 a0_6] 43 (0, 0)) (by (with_reducible repeat (first | refine blk_drewN ?_ _ | refine blk_drew ?_ | refine blk_alloc ?_ _)); refine blk_far ?_ NBBD_Cj.out _; (with_reducible repeat (first | refine blk_drewN ?_ _ | refine blk_drew ?_ | refine blk_alloc ?_ _)); refine blk_far ?_ NBBD_Cj.out _; (with_reducible repeat (first | refine blk_drewN ?_ _ | refine blk_drew ?_ | refine blk_alloc ?_ _)); refine blk_far ?_ NBBD_Cj.out _; (with_reducible repeat (first | refine blk_drewN ?_ _ | refine blk_drew ?_ | refine blk_alloc ?_ _)); refine blk_far ?_ NBBD_Cj.out _; (with_reducible repeat (first | refine blk_drewN ?_ _ | refine blk_drew ?_ | refine blk_alloc ?_ _)); refine blk_far ?_ NBBD_Cj.out _; (with_reducible repeat (first | refine blk_drewN ?_ _ | refine blk_drew ?_ | refine blk_alloc ?_ _)); refine blk_far ?_ NBBD_Cj.out _; (with_reducible repeat (first | refine blk_drewN ?_ _ | refine blk_drew ?_ | refine blk_alloc ?_ _)); refine blk_far ?_ NBBD_Cj.out _; (with_reducible repeat (first | refine blk_drewN ?_ _ | refine blk_drew ?_ | refine blk_alloc ?_ _)); exact BKBD.out) hb); have n5_ := Aside0.mk (blk_below (g := gbBY) (o := .cells #[.int .i64 tBO, .int .i64 tBP, .int .i64 tBQ, .slice Ao22 tBR.length co22, .int .i64 tBU, .int .i64 tBV, .int .i64 tBW] 47 (0, 0)) (by (with_reducible repeat (first | refine blk_drewN ?_ _ | refine blk_drew ?_ | refine blk_alloc ?_ _)); refine blk_far ?_ NBBY_Cj.out _; (with_reducible repeat (first | refine blk_drewN ?_ _ | refine blk_drew ?_ | refine blk_alloc ?_ _)); refine blk_far ?_ NBBY_Cj.out _; (with_reducible repeat (first | refine blk_drewN ?_ _ | refine blk_drew ?_ | refine blk_alloc ?_ _)); refine blk_far ?_ NBBY_Cj.out _; (with_reducible repeat (first | refine blk_drewN ?_ _ | refine blk_drew ?_ | refine blk_alloc ?_ _)); refine blk_far ?_ NBBY_Cj.out _; (with_reducible repeat (first | refine blk_drewN ?_ _ | refine blk_drew ?_ | refine blk_alloc ?_ _)); refine blk_far ?_ NBBY_Cj.out _; (with_reducible repeat (first | refine blk_drewN ?_ _ | refine blk_drew ?_ | refine blk_alloc ?_ _)); refine blk_far ?_ NBBY_Cj.out _; (with_reducible repeat (first | refine blk_drewN ?_ _ | refine blk_drew ?_ | refine blk_alloc ?_ _)); refine blk_far ?_ NBBY_Cj.out _; (with_reducible repeat (first | refine blk_drewN ?_ _ | refine blk_drew ?_ | refine blk_alloc ?_ _)); exact BKBY.out) hb); have n6_ := Aside0.mk (blk_below (g := gbC8) (o := .cells #[.int .i64 tBZ, .int .i64 tC0, .int .i64 tC1, .slice Ao29 tC2.length co29, .int .i64 tC5, .int .i64 tC6, .int .i64 tC7] 47 (0, 0)) (by (with_reducible repeat (first | refine blk_drewN ?_ _ | refine blk_drew ?_ | refine blk_alloc ?_ _)); refine blk_far ?_ NBC8_Cj.out _; (with_reducible repeat (first | refine blk_drewN ?_ _ | refine blk_drew ?_ | refine blk_alloc ?_ _)); refine blk_far ?_ NBC8_Cj.out _; (with_reducible repeat (first | refine blk_drewN ?_ _ | refine blk_drew ?_ | refine blk_alloc ?_ _)); refine blk_far ?_ NBC8_Cj.out _; (with_reducible repeat (first | refine blk_drewN ?_ _ | refine blk_drew ?_ | refine blk_alloc ?_ _)); refine blk_far ?_ NBC8_Cj.out _; (with_reducible repeat (first | refine blk_drewN ?_ _ | refine blk_drew ?_ | refine blk_alloc ?_ _)); refine blk_far ?_ NBC8_Cj.out _; (with_reducible repeat (first | refine blk_drewN ?_ _ | refine blk_drew ?_ | refine blk_alloc ?_ _)); refine blk_far ?_ NBC8_Cj.out _; (with_reducible repeat (first | refine blk_drewN ?_ _ | refine blk_drew ?_ | refine blk_alloc ?_ _)); refine blk_far ?_ NBC8_Cj.out _; (with_reducible repeat (first | refine blk_drewN ?_ _ | refine blk_drew ?_ | refine blk_alloc ?_ _)); exact BKC8.out) hb); have n7_ := Aside0.mk (blk_below (g := gbCj) (o := .cells #[.int .i64 tC9, .int .i64 tCa, .int .i64 tCb, .slice Ao36 tCc.length co36, .int .i64 tCf, .int .i64 tCg, .int .i64 tCh] 47 (0, 0)) (by (with_reducible repeat (first | refine blk_drewN ?_ _ | refine blk_drew ?_ | refine blk_alloc ?_ _)); refine blk_put (cs := #[.int .i64 tC9, .int .i64 tCa, .int .i64 tCb, .slice Ao36 tCc.length co36, .int .i64 tCf, .int .i64 tCg, .int .i64 0]) ?_ 6 _ rfl; (with_reducible repeat (first | refine blk_drewN ?_ _ | refine blk_drew ?_ | refine blk_alloc ?_ _)); refine blk_put (cs := #[.int .i64 tC9, .int .i64 tCa, .int .i64 tCb, .slice Ao36 tCc.length co36, .int .i64 tCf, .int .i64 0, .int .i64 0]) ?_ 5 _ rfl; (with_reducible repeat (first | refine blk_drewN ?_ _ | refine blk_drew ?_ | refine blk_alloc ?_ _)); refine blk_put (cs := #[.int .i64 tC9, .int .i64 tCa, .int .i64 tCb, .slice Ao36 tCc.length co36, .int .i64 0, .int .i64 0, .int .i64 0]) ?_ 4 _ rfl; (with_reducible repeat (first | refine blk_drewN ?_ _ | refine blk_drew ?_ | refine blk_alloc ?_ _)); refine blk_put (cs := #[.int .i64 tC9, .int .i64 tCa, .int .i64 tCb, .slice none 0 0, .int .i64 0, .int .i64 0, .int .i64 0]) ?_ 3 _ rfl; (with_reducible repeat (first | refine blk_drewN ?_ _ | refine blk_drew ?_ | refine blk_alloc ?_ _)); refine blk_put (cs := #[.int .i64 tC9, .int .i64 tCa, .int .i64 0, .slice none 0 0, .int .i64 0, .int .i64 0, .int .i64 0]) ?_ 2 _ rfl; (with_reducible repeat (first | refine blk_drewN ?_ _ | refine blk_drew ?_ | refine blk_alloc ?_ _)); refine blk_put (cs := #[.int .i64 tC9, .int .i64 0, .int .i64 0, .slice none 0 0, .int .i64 0, .int .i64 0, .int .i64 0]) ?_ 1 _ rfl; (with_reducible repeat (first | refine blk_drewN ?_ _ | refine blk_drew ?_ | refine blk_alloc ?_ _)); refine blk_put (cs := #[.int .i64 0, .int .i64 0, .int .i64 0, .slice none 0 0, .int .i64 0, .int .i64 0, .int .i64 0]) ?_ 0 _ rfl; (with_reducible repeat (first | refine blk_drewN ?_ _ | refine blk_drew ?_ | refine blk_alloc ?_ _)); exact BKCj.out) hb); have n8_ := Aside0.mk (below_step belS hb); clear HOBK; clear HOBT; clear HOC4; clear HOCe; clear BKBD; clear BKBY; clear BKC8; clear BKCj; clear HB; have HOBK := n0_; have HOBT := n1_; have HOC4 := n2_; have HOCe := n3_; have BKBD := n4_; have BKBY := n5_; have BKC8 := n6_; have BKCj := n7_; have HB := n8_; clear n0_ n1_ n2_ n3_ n4_ n5_ n6_ n7_ n8_; (try clear hb); (try clear hb2); (try clear hk); (try clear hi)))
    go_meet
    case rel => exact ⟨_, (true), (by first | rfl | (simp; done) | (simp [*]; done)), H', ⟨by first | omega | exact Nat.le_refl _⟩, ⟨by (with_reducible repeat (first | apply Kd.R_alloc | apply Kd.R_drewN | apply Kd.R_drew)); exact Kd.R_mono HOBT.out (fun _ hk => ⟨hk.1.2, hk.2⟩)⟩, ⟨by (with_reducible repeat (first | apply Kd.R_alloc | apply Kd.R_drewN | apply Kd.R_drew)); exact Kd.R_mono HOC4.out (fun _ hk => ⟨hk.1.2, hk.2⟩)⟩, ⟨by (with_reducible repeat (first | apply Kd.R_alloc | apply Kd.R_drewN | apply Kd.R_drew)); exact Kd.R_mono HOCe.out (fun _ hk => ⟨hk.1.2, hk.2⟩)⟩, ⟨by (with_reducible repeat (first | refine blk_drewN ?_ _ | refine blk_drew ?_ | refine blk_alloc ?_ _)); exact BKBD.out⟩, ⟨by (with_reducible repeat (first | refine blk_drewN ?_ _ | refine blk_drew ?_ | refine blk_alloc ?_ _)); exact BKBY.out⟩, ⟨by (with_reducible repeat (first | refine blk_drewN ?_ _ | refine blk_drew ?_ | refine blk_alloc ?_ _)); exact BKC8.out⟩, ⟨by (with_reducible repeat (first | refine blk_drewN ?_ _ | refine blk_drew ?_ | refine blk_alloc ?_ _)); exact BKCj.out⟩, ⟨by exact belS⟩⟩
  case rest =>
   clear HC11
   try clear c1
   try clear c2
   try clear p2
   try clear c3
   try clear c3b0
   try clear c4
   try clear c5
   try clear c7
   try clear c13
   try clear c20
   try clear c26
   try clear c27
   try clear c32
   try clear c33
   try clear c34
   try clear c38
   try clear c39
   try clear c40
   try clear c41
   try clear c43
   try clear c44
   try clear c47
   try clear c48
   try clear c49
   try clear c51
   try clear c52
   try clear c53
   try clear hcz13_0 hcz13_1 hcz13_2 hcz13_3 hcz13_4 hcz13_5 hcz13_6
   try clear hcz15_0 hcz15_1 hcz15_2 hcz15_3 hcz15_4 hcz15_5 hcz15_6
   try clear hcz21_0 hcz21_1 hcz21_2 hcz21_3 hcz21_4 hcz21_5 hcz21_6
   try clear hcz23_0 hcz23_1 hcz23_2 hcz23_3 hcz23_4 hcz23_5 hcz23_6
   try clear hcz28_0 hcz28_1 hcz28_2 hcz28_3 hcz28_4 hcz28_5 hcz28_6
   try clear hcz35_0 hcz35_1 hcz35_2 hcz35_3 hcz35_4 hcz35_5 hcz35_6
   try clear hcz42_0 hcz42_1 hcz42_2 hcz42_3 hcz42_4 hcz42_5 hcz42_6
   try clear hcz45_0 hcz45_1 hcz45_2 hcz45_3 hcz45_4 hcz45_5 hcz45_6
   try clear hcz50_0 hcz50_1 hcz50_2 hcz50_3 hcz50_4 hcz50_5 hcz50_6
   try clear hcz53_0 hcz53_1 hcz53_2 hcz53_3 hcz53_4 hcz53_5 hcz53_6
   try clear hcz5_0 hcz5_1 hcz5_2 hcz5_3 hcz5_4 hcz5_5 hcz5_6
   try clear hfz13_0 hfz13_1 hfz13_2 hfz13_3 hfz13_4 hfz13_5 hfz13_6
   try clear hfz15_0 hfz15_1 hfz15_2 hfz15_3 hfz15_4 hfz15_5 hfz15_6
   try clear hfz21_0 hfz21_1 hfz21_2 hfz21_3 hfz21_4 hfz21_5 hfz21_6
   try clear hfz23_0 hfz23_1 hfz23_2 hfz23_3 hfz23_4 hfz23_5 hfz23_6
   try clear hfz28_0 hfz28_1 hfz28_2 hfz28_3 hfz28_4 hfz28_5 hfz28_6
   try clear hfz35_0 hfz35_1 hfz35_2 hfz35_3 hfz35_4 hfz35_5 hfz35_6
   try clear hfz42_0 hfz42_1 hfz42_2 hfz42_3 hfz42_4 hfz42_5 hfz42_6
   try clear hfz45_0 hfz45_1 hfz45_2 hfz45_3 hfz45_4 hfz45_5 hfz45_6
   try clear hfz50_0 hfz50_1 hfz50_2 hfz50_3 hfz50_4 hfz50_5 hfz50_6
   try clear hfz53_0 hfz53_1 hfz53_2 hfz53_3 hfz53_4 hfz53_5 hfz53_6
   try clear hfz5_0 hfz5_1 hfz5_2 hfz5_3 hfz5_4 hfz5_5 hfz5_6
   obtain ⟨kq, x40_10, rfl, HA, HJ10, HO_BZ003, HO_C9003, HO_Ck003, BKBD, BKBY, BKC8, BKCj, HB⟩ := hcut
   cases kq with
   | zero => exact absurd HA.out (by simp [laws_FnExactOtherRace.j0])
   | succ kj10 =>
    have H := HA.out
    clear HA
    simp only [laws_FnExactOtherRace.j0] at H
    by_cases c55 : x40_10 = true
    ·subst c55
     have H1 : (some false) = some r := by rw [if_pos rfl] at H; exact H
     clear H
     have H := H1
     clear H1
     obtain rfl := Option.some.inj H
     go_wp2
     go_ret
     exact ⟨by first | rfl | (simp [errW_none, errW_some] <;> rfl) | (simp [*, errW_none, errW_some] <;> rfl), by exact belS⟩
    ·replace c55 := Bool.eq_false_iff.mpr c55
     subst c55
     have H1 : ((laws_toRace.f kj10 a0_0 a0_1 a0_2 l0_3 a0_4 a0_5 a0_6).bind fun btCl => ((laws_eqRace.f kj10 tBZ tC0 tC1 tC2 tC5 tC6 tC7 btCl.1 btCl.2.1 btCl.2.2.1 btCl.2.2.2.1 btCl.2.2.2.2.1 btCl.2.2.2.2.2.1 btCl.2.2.2.2.2.2).bind fun tCu => (if tCu = true then ((laws_markRace.f kj10 tBZ tC0 tC1 tC2 tC5 tC6 tC7 1).bind fun btCv => (if btCv.1 < 0 then (laws_FnExactOtherRace.j1 kj10 tBX true a0_0 a0_1 a0_2 l0_3 a0_4 a0_5 a0_6 tBO tBP tBQ tBR tBU tBV tBW tC9 tCa tCb tCc tCf tCg tCh) else ((laws_eqRace.f kj10 tC9 tCa tCb tCc tCf tCg tCh tBO tBP tBQ tBR tBU tBV tBW).bind fun tCx => (if tCx = true then (laws_FnExactOtherRace.j1 kj10 tBX (tCi != tBX) a0_0 a0_1 a0_2 l0_3 a0_4 a0_5 a0_6 tBO tBP tBQ tBR tBU tBV tBW tC9 tCa tCb tCc tCf tCg tCh) else (laws_FnExactOtherRace.j1 kj10 tBX true a0_0 a0_1 a0_2 l0_3 a0_4 a0_5 a0_6 tBO tBP tBQ tBR tBU tBV tBW tC9 tCa tCb tCc tCf tCg tCh))))) else (some false)))) = some r := by rw [if_neg (show ¬ (false = true) by decide)] at H; exact H
     clear H
     have H := H1
     clear H1
     replace H := Option.bind_eq_some_iff.mp H
     obtain ⟨⟨tCl, tCm, tCn, tCo, tCr, tCs, tCt⟩, A560, H⟩ := H
     replace H : ((laws_eqRace.f kj10 tBZ tC0 tC1 tC2 tC5 tC6 tC7 tCl tCm tCn tCo tCr tCs tCt).bind fun tCu => (if tCu = true then ((laws_markRace.f kj10 tBZ tC0 tC1 tC2 tC5 tC6 tC7 1).bind fun btCv => (if btCv.1 < 0 then (laws_FnExactOtherRace.j1 kj10 tBX true a0_0 a0_1 a0_2 l0_3 a0_4 a0_5 a0_6 tBO tBP tBQ tBR tBU tBV tBW tC9 tCa tCb tCc tCf tCg tCh) else ((laws_eqRace.f kj10 tC9 tCa tCb tCc tCf tCg tCh tBO tBP tBQ tBR tBU tBV tBW).bind fun tCx => (if tCx = true then (laws_FnExactOtherRace.j1 kj10 tBX (tCi != tBX) a0_0 a0_1 a0_2 l0_3 a0_4 a0_5 a0_6 tBO tBP tBQ tBR tBU tBV tBW tC9 tCa tCb tCc tCf tCg tCh) else (laws_FnExactOtherRace.j1 kj10 tBX true a0_0 a0_1 a0_2 l0_3 a0_4 a0_5 a0_6 tBO tBP tBQ tBR tBU tBV tBW tC9 tCa tCb tCc tCf tCg tCh))))) else (some false))) = some r := H
     have A56 := Aside0.mk A560
     clear A560
     replace H := Option.bind_eq_some_iff.mp H
     obtain ⟨tCu, A570, H⟩ := H
     replace H : (if tCu = true then ((laws_markRace.f kj10 tBZ tC0 tC1 tC2 tC5 tC6 tC7 1).bind fun btCv => (if btCv.1 < 0 then (laws_FnExactOtherRace.j1 kj10 tBX true a0_0 a0_1 a0_2 l0_3 a0_4 a0_5 a0_6 tBO tBP tBQ tBR tBU tBV tBW tC9 tCa tCb tCc tCf tCg tCh) else ((laws_eqRace.f kj10 tC9 tCa tCb tCc tCf tCg tCh tBO tBP tBQ tBR tBU tBV tBW).bind fun tCx => (if tCx = true then (laws_FnExactOtherRace.j1 kj10 tBX (tCi != tBX) a0_0 a0_1 a0_2 l0_3 a0_4 a0_5 a0_6 tBO tBP tBQ tBR tBU tBV tBW tC9 tCa tCb tCc tCf tCg tCh) else (laws_FnExactOtherRace.j1 kj10 tBX true a0_0 a0_1 a0_2 l0_3 a0_4 a0_5 a0_6 tBO tBP tBQ tBR tBU tBV tBW tC9 tCa tCb tCc tCf tCg tCh))))) else (some false)) = some r := H
     have A57 := Aside0.mk A570
     clear A570
     by_cases c58 : tCu = true
     ·subst c58
      have H1 : ((laws_markRace.f kj10 tBZ tC0 tC1 tC2 tC5 tC6 tC7 1).bind fun btCv => (if btCv.1 < 0 then (laws_FnExactOtherRace.j1 kj10 tBX true a0_0 a0_1 a0_2 l0_3 a0_4 a0_5 a0_6 tBO tBP tBQ tBR tBU tBV tBW tC9 tCa tCb tCc tCf tCg tCh) else ((laws_eqRace.f kj10 tC9 tCa tCb tCc tCf tCg tCh tBO tBP tBQ tBR tBU tBV tBW).bind fun tCx => (if tCx = true then (laws_FnExactOtherRace.j1 kj10 tBX (tCi != tBX) a0_0 a0_1 a0_2 l0_3 a0_4 a0_5 a0_6 tBO tBP tBQ tBR tBU tBV tBW tC9 tCa tCb tCc tCf tCg tCh) else (laws_FnExactOtherRace.j1 kj10 tBX true a0_0 a0_1 a0_2 l0_3 a0_4 a0_5 a0_6 tBO tBP tBQ tBR tBU tBV tBW tC9 tCa tCb tCc tCf tCg tCh))))) = some r := by rw [if_pos rfl] at H; exact H
      clear H
      have H := H1
      clear H1
      replace H := Option.bind_eq_some_iff.mp H
      obtain ⟨⟨tCv, tCw⟩, A590, H⟩ := H
      replace H : (if tCv < 0 then (laws_FnExactOtherRace.j1 kj10 tBX true a0_0 a0_1 a0_2 l0_3 a0_4 a0_5 a0_6 tBO tBP tBQ tBR tBU tBV tBW tC9 tCa tCb tCc tCf tCg tCh) else ((laws_eqRace.f kj10 tC9 tCa tCb tCc tCf tCg tCh tBO tBP tBQ tBR tBU tBV tBW).bind fun tCx => (if tCx = true then (laws_FnExactOtherRace.j1 kj10 tBX (tCi != tBX) a0_0 a0_1 a0_2 l0_3 a0_4 a0_5 a0_6 tBO tBP tBQ tBR tBU tBV tBW tC9 tCa tCb tCc tCf tCg tCh) else (laws_FnExactOtherRace.j1 kj10 tBX true a0_0 a0_1 a0_2 l0_3 a0_4 a0_5 a0_6 tBO tBP tBQ tBR tBU tBV tBW tC9 tCa tCb tCc tCf tCg tCh)))) = some r := H
      have A59 := Aside0.mk A590
      clear A590
      have HC60 := Aside0.mk H
      clear H
      try go_wp2
      have n0_ := Aside0.mk (Kd.R_drew HO_BZ003.out)
      have n1_ := Aside0.mk (Kd.R_drew HO_C9003.out)
      have n2_ := Aside0.mk (Kd.R_drew HO_Ck003.out)
      have n3_ := Aside0.mk (blk_drew BKBD.out)
      have n4_ := Aside0.mk (blk_drew BKBY.out)
      have n5_ := Aside0.mk (blk_drew BKC8.out)
      have n6_ := Aside0.mk (blk_drew BKCj.out)
      have n7_ := Aside0.mk (below_drew1 HB.out)
      clear HO_BZ003
      clear HO_C9003
      clear HO_Ck003
      clear BKBD
      clear BKBY
      clear BKC8
      clear BKCj
      clear HB
      have HO_BZ003 := n0_
      have HO_C9003 := n1_
      have HO_Ck003 := n2_
      have BKBD := n3_
      have BKBY := n4_
      have BKC8 := n5_
      have BKCj := n6_
      have HB := n7_
      clear n0_ n1_ n2_ n3_ n4_ n5_ n6_ n7_
      refine start_ (n := 5) (S := fun w' => w'.cell? ⟨gbC8, 0, none⟩ = some (.int .i64 tBZ) ∧ w'.cell? ⟨gbC8, 1, none⟩ = some (.int .i64 tC0) ∧ w'.cell? ⟨gbC8, 2, none⟩ = some (.int .i64 tC1) ∧ w'.cell? ⟨gbC8, 3, none⟩ = some (.slice Ao29 tC2.length co29) ∧ w'.cell? ⟨gbC8, 4, none⟩ = some (.int .i64 tC5) ∧ w'.cell? ⟨gbC8, 5, none⟩ = some (.int .i64 tC6) ∧ w'.cell? ⟨gbC8, 6, none⟩ = some (.int .i64 tC7) ∧ w'.cell? ⟨gbBD, 0, none⟩ = some (.int .i64 a0_0) ∧ w'.cell? ⟨gbBD, 1, none⟩ = some (.int .i64 a0_1) ∧ w'.cell? ⟨gbBD, 2, none⟩ = some (.int .i64 a0_2) ∧ w'.cell? ⟨gbBD, 3, none⟩ = some (.slice A0_3 l0_3.length c0_3) ∧ w'.cell? ⟨gbBD, 4, none⟩ = some (.int .i64 a0_4) ∧ w'.cell? ⟨gbBD, 5, none⟩ = some (.int .i64 a0_5) ∧ w'.cell? ⟨gbBD, 6, none⟩ = some (.int .i64 a0_6)) (ds := []) #[false, false, false, false, false] (by kernel_rfl) rfl rfl ⟨(blk_cell BKC8.out 0).trans rfl, (blk_cell BKC8.out 1).trans rfl, (blk_cell BKC8.out 2).trans rfl, (blk_cell BKC8.out 3).trans rfl, (blk_cell BKC8.out 4).trans rfl, (blk_cell BKC8.out 5).trans rfl, (blk_cell BKC8.out 6).trans rfl, (blk_cell BKBD.out 0).trans rfl, (blk_cell BKBD.out 1).trans rfl, (blk_cell BKBD.out 2).trans rfl, (blk_cell BKBD.out 3).trans rfl, (blk_cell BKBD.out 4).trans rfl, (blk_cell BKBD.out 5).trans rfl, (blk_cell BKBD.out 6).trans rfl⟩ (fun hHeld => ?_)
      generalize wc.drew = w61 at HO_BZ003 HO_C9003 HO_Ck003 BKBD BKBY BKC8 BKCj HB hHeld ⊢
      refine take_ (i := 0) (N := some 41) (v := ?_) (a' := ?_) #[true, false, false, false, false] rfl rfl (by kernel_rfl) (fun _ _ _ h => h) (Or.inl ⟨by rfl, ?_⟩) hHeld ?_ ?_
      rotate_left
      ·rintro w' ⟨s0, s1, s2, s3, s4, s5, s6, s7, s8, s9, s10, s11, s12, s13⟩
       go_simp
       with_reducible rfl
      rotate_left
      ·simp only [Act.put, List.setIfInBounds_toArray, List.set_cons_zero, List.set_cons_succ, i64_w, i32_w]
       rfl
      refine take_ (i := 1) (N := some 42) (v := ?_) (a' := ?_) #[true, true, false, false, false] rfl rfl (by kernel_rfl) (fun _ _ _ h => h) (Or.inl ⟨by rfl, ?_⟩) hHeld ?_ ?_
      rotate_left
      ·rintro w' ⟨s0, s1, s2, s3, s4, s5, s6, s7, s8, s9, s10, s11, s12, s13⟩
       go_simp
       with_reducible rfl
      rotate_left
      ·simp only [Act.put, List.setIfInBounds_toArray, List.set_cons_zero, List.set_cons_succ, i64_w, i32_w]
       rfl
      refine one_ (i := 2) (N := some 43) #[true, true, true, false, false] rfl rfl (by kernel_rfl) (by decide) (fun K hK => ?_)
      refine goes_ Try.func51 (by kernel_rfl) rfl #[.agg #[.int .i64 a0_0, .int .i64 a0_1, .int .i64 a0_2, .slice A0_3 l0_3.length c0_3, .int .i64 a0_4, .int .i64 a0_5, .int .i64 a0_6]] (by rfl) rfl rfl argS ?_
      with_reducible refine (laws_toRace.calls kj10 a0_0 a0_1 a0_2 _ _ l0_3 a0_4 a0_5 a0_6 tCl tCm tCn tCo tCr tCs tCt _ ?side1 ?side2 A56.out).mono ?_
      (case side1 => exact Kd.C_up (Kd.C_below HR0_3.out HB.out))
      (case side2 => exact HC0_3.out)
      rintro e w62 ⟨vCp, rfl, ho0, hb⟩
      refine ⟨_, rfl, ?_⟩
      have n0_ := Aside0.mk (Kd.R_elder' (Kd.R_up HO_BZ003.out) (Kd.R_base ho0) hb)
      have n1_ := Aside0.mk (Kd.R_elder' (Kd.R_up HO_C9003.out) (Kd.R_base ho0) hb)
      have n2_ := Aside0.mk (Kd.R_elder' (Kd.R_up HO_Ck003.out) (Kd.R_base ho0) hb)
      have n3_ := Aside0.mk (Kd.R_lower (Kd.R_new' (Kd.R_new' (Kd.R_new' ho0 (Kd.R_lt (Kd.R_up HO_BZ003.out))) (Kd.R_lt (Kd.R_up HO_C9003.out))) (Kd.R_lt (Kd.R_up HO_Ck003.out))) (below_size belS))
      have n4_ := Aside0.mk (blk_below (blk_up BKBD.out) hb)
      have n5_ := Aside0.mk (blk_below (blk_up BKBY.out) hb)
      have n6_ := Aside0.mk (blk_below (blk_up BKC8.out) hb)
      have n7_ := Aside0.mk (blk_below (blk_up BKCj.out) hb)
      have n8_ := Aside0.mk (below_step belS hb)
      clear HO_BZ003
      clear HO_C9003
      clear HO_Ck003
      clear BKBD
      clear BKBY
      clear BKC8
      clear BKCj
      clear HB
      have HO_BZ003 := n0_
      have HO_C9003 := n1_
      have HO_Ck003 := n2_
      have HOCq := n3_
      have BKBD := n4_
      have BKBY := n5_
      have BKC8 := n6_
      have BKCj := n7_
      have HB := n8_
      clear n0_ n1_ n2_ n3_ n4_ n5_ n6_ n7_ n8_
      (try clear hb)
      (try clear hb2)
      (try clear hk)
      (try clear hi)
      (try clear ho0)
      obtain ⟨Ao63, co63, eo63⟩ := Kd.R_slice HOCq.out
      (first | subst eo63 | (injection eo63 with f1_ f2_ f3_; have f4_ := f1_.symm; have f5_ := f3_.symm; clear f1_ f2_ f3_; subst f4_; subst f5_))
      refine hK.out _ _ ⟨(blk_cell BKC8.out 0).trans rfl, (blk_cell BKC8.out 1).trans rfl, (blk_cell BKC8.out 2).trans rfl, (blk_cell BKC8.out 3).trans rfl, (blk_cell BKC8.out 4).trans rfl, (blk_cell BKC8.out 5).trans rfl, (blk_cell BKC8.out 6).trans rfl, (blk_cell BKBD.out 0).trans rfl, (blk_cell BKBD.out 1).trans rfl, (blk_cell BKBD.out 2).trans rfl, (blk_cell BKBD.out 3).trans rfl, (blk_cell BKBD.out 4).trans rfl, (blk_cell BKBD.out 5).trans rfl, (blk_cell BKBD.out 6).trans rfl⟩ (fun hHeld => ?_)
      clear hK K
      refine norm_ (a' := ?_) ?_ ?_
      rotate_left
      ·show Act.put _ (some 43) _ = _
       simp only [Act.put, List.setIfInBounds_toArray, List.set_cons_zero, List.set_cons_succ, i64_w, i32_w]
       rfl
      refine one_ (i := 3) (N := some 44) #[true, true, true, true, false] rfl rfl (by kernel_rfl) (by decide) (fun K hK => ?_)
      refine goes_ Try.func53 (by kernel_rfl) rfl #[.agg #[.int .i64 tBZ, .int .i64 tC0, .int .i64 tC1, .slice Ao29 tC2.length co29, .int .i64 tC5, .int .i64 tC6, .int .i64 tC7], .agg #[.int .i64 tCl, .int .i64 tCm, .int .i64 tCn, .slice Ao63 tCo.length co63, .int .i64 tCr, .int .i64 tCs, .int .i64 tCt]] (by rfl) rfl rfl argS ?_
      with_reducible refine (laws_eqRace.calls kj10 tBZ tC0 tC1 _ _ tC2 tC5 tC6 tC7 tCl tCm tCn _ _ tCo tCr tCs tCt true _ ?side1 ?side2 ?side3 ?side4 A57.out).mono ?_
      (case side1 => exact Kd.C_up (Kd.R_reads' HO_C9003.out).2.2)
      (case side2 => exact (Kd.R_reads' HO_C9003.out).2.1)
      (case side3 => exact Kd.C_up (Kd.R_reads' HOCq.out).2.2)
      (case side4 => exact (Kd.R_reads' HOCq.out).2.1)
      rintro e w64 ⟨rfl, hb⟩
      refine ⟨_, rfl, ?_⟩
      have n0_ := Aside0.mk (Kd.R_below (Kd.R_up HO_BZ003.out) hb)
      have n1_ := Aside0.mk (Kd.R_below (Kd.R_up HO_C9003.out) hb)
      have n2_ := Aside0.mk (Kd.R_below (Kd.R_up HO_Ck003.out) hb)
      have n3_ := Aside0.mk (Kd.R_below (Kd.R_up HOCq.out) hb)
      have n4_ := Aside0.mk (blk_below (blk_up BKBD.out) hb)
      have n5_ := Aside0.mk (blk_below (blk_up BKBY.out) hb)
      have n6_ := Aside0.mk (blk_below (blk_up BKC8.out) hb)
      have n7_ := Aside0.mk (blk_below (blk_up BKCj.out) hb)
      have n8_ := Aside0.mk (below_step belS hb)
      clear HO_BZ003
      clear HO_C9003
      clear HO_Ck003
      clear HOCq
      clear BKBD
      clear BKBY
      clear BKC8
      clear BKCj
      clear HB
      have HO_BZ003 := n0_
      have HO_C9003 := n1_
      have HO_Ck003 := n2_
      have HOCq := n3_
      have BKBD := n4_
      have BKBY := n5_
      have BKC8 := n6_
      have BKCj := n7_
      have HB := n8_
      clear n0_ n1_ n2_ n3_ n4_ n5_ n6_ n7_ n8_
      (try clear hb)
      (try clear hb2)
      (try clear hk)
      (try clear hi)
      refine hK.out _ _ ⟨(blk_cell BKC8.out 0).trans rfl, (blk_cell BKC8.out 1).trans rfl, (blk_cell BKC8.out 2).trans rfl, (blk_cell BKC8.out 3).trans rfl, (blk_cell BKC8.out 4).trans rfl, (blk_cell BKC8.out 5).trans rfl, (blk_cell BKC8.out 6).trans rfl, (blk_cell BKBD.out 0).trans rfl, (blk_cell BKBD.out 1).trans rfl, (blk_cell BKBD.out 2).trans rfl, (blk_cell BKBD.out 3).trans rfl, (blk_cell BKBD.out 4).trans rfl, (blk_cell BKBD.out 5).trans rfl, (blk_cell BKBD.out 6).trans rfl⟩ (fun hHeld => ?_)
      clear hK K
      refine norm_ (a' := ?_) ?_ ?_
      rotate_left
      ·show Act.put _ (some 44) _ = _
       simp only [Act.put, List.setIfInBounds_toArray, List.set_cons_zero, List.set_cons_succ, i64_w, i32_w]
       rfl
      refine pure_ (i := 4) (N := some 45) (v := ?_) (a' := ?_) #[true, true, true, true, true] rfl rfl (by kernel_rfl) (fun _ _ _ h => h) (Or.inl ⟨by rfl, ?_⟩) ?_ ?_
      rotate_left
      ·intro w'
       go_simp
       with_reducible rfl
      rotate_left
      ·simp only [Act.put, List.setIfInBounds_toArray, List.set_cons_zero, List.set_cons_succ, i64_w, i32_w]
       rfl
      refine done_ (by kernel_rfl) ?_
      have hnb65 := NBC8_BD.out
      have hnc65 := NBBD_C8.out
      have hnb66 := NBC8_BY.out
      have hnc66 := NBBY_C8.out
      have hnb67 := NBC8_Cj.out
      have hnc67 := NBCj_C8.out
      obtain ⟨hcz68_0, hcz68_1, hcz68_2, hcz68_3, hcz68_4, hcz68_5, hcz68_6, hfz68_0, hfz68_1, hfz68_2, hfz68_3, hfz68_4, hfz68_5, hfz68_6⟩ := blk7 BKC8.out
      go_upto_region 14 with (first | ((with_reducible refine gate_callee (f := 75) rfl ?_); refine goesL_ (some 48) rfl rfl Try.func75 (by kernel_rfl) rfl #[.agg #[.int .i64 tBZ, .int .i64 tC0, .int .i64 tC1, .slice Ao29 tC2.length co29, .int .i64 tC5, .int .i64 tC6, .int .i64 tC7], .int .i64 1] rfl argS ?_; (with_reducible refine (laws_markRace.calls kj10 tBZ tC0 tC1 (fun k_ => some k_ = (.slice Ao29 tC2.length co29 : Value).ownBlock) (.slice Ao29 tC2.length co29) tC2 tC5 tC6 tC7 1 tCv tCw w _ ?side1 ?side2 A59.out).mono ?_); (case side1 => exact belS); (case side2 => exact Kd.R_tight rfl HO_C9003.out); rintro e w69 ⟨rfl, hy0, hb, hkp⟩; refine ⟨_, rfl, ?_⟩; have n0_ := Aside0.mk (Kd.R_mono (ok' := fun k_ => some k_ ≠ (.slice Ao29 tC2.length co29 : Value).ownBlock ∧ some k_ ≠ (.slice Ao36 tCc.length co36 : Value).ownBlock ∧ some k_ ≠ (.slice Ao63 tCo.length co63 : Value).ownBlock) (Kd.R_keptB (HO_BZ003.out) hkp (fun k_ hk_ hs_ => (hk_.1.1) hs_)) (fun k_ hk_ => ⟨hk_.1.1.1, hk_.1.1.2, hk_.1.2⟩)); have n1_ := Aside0.mk (Kd.R_reok rfl hy0 (fun k_ e_ => HO_C9003.out.1 k_ e_)); have n2_ := Aside0.mk (Kd.R_mono (ok' := fun k_ => some k_ ≠ (.slice Ao22 tBR.length co22 : Value).ownBlock ∧ some k_ ≠ (.slice Ao29 tC2.length co29 : Value).ownBlock ∧ some k_ ≠ (.slice Ao63 tCo.length co63 : Value).ownBlock) (Kd.R_keptB (HO_Ck003.out) hkp (fun k_ hk_ hs_ => (hk_.1.2) hs_)) (fun k_ hk_ => ⟨hk_.1.1.1, hk_.1.1.2, hk_.1.2⟩)); have n3_ := Aside0.mk (blk_kept (blk_up BKBD.out) hkp (fun hs_ => (fun e_ => (Kd.R_ne HO_C9003.out BKBD.out (by decide)) e_) hs_)); have n4_ := Aside0.mk (blk_kept (blk_up BKBY.out) hkp (fun hs_ => (fun e_ => (Kd.R_ne HO_C9003.out BKBY.out (by decide)) e_) hs_)); have n5_ := Aside0.mk (blk_kept (blk_up BKC8.out) hkp (fun hs_ => (fun e_ => (Kd.R_ne HO_C9003.out BKC8.out (by decide)) e_) hs_)); have n6_ := Aside0.mk (blk_kept (blk_up BKCj.out) hkp (fun hs_ => (fun e_ => (Kd.R_ne HO_C9003.out BKCj.out (by decide)) e_) hs_)); have n7_ := Aside0.mk (Kd.R_mono (ok' := fun k_ => some k_ ≠ (.slice Ao22 tBR.length co22 : Value).ownBlock ∧ some k_ ≠ (.slice Ao29 tC2.length co29 : Value).ownBlock ∧ some k_ ≠ (.slice Ao36 tCc.length co36 : Value).ownBlock) (Kd.R_keptB (HOCq.out) hkp (fun k_ hk_ hs_ => (hk_.1.2) hs_)) (fun k_ hk_ => ⟨hk_.1.1.1.2, hk_.1.1.2, hk_.1.2⟩)); have n8_ := Aside0.mk (hb); clear HO_BZ003; clear HO_C9003; clear HO_Ck003; clear BKBD; clear BKBY; clear BKC8; clear BKCj; clear HOCq; clear HB; have HO_BZ003 := n0_; have HO_C9003 := n1_; have HO_Ck003 := n2_; have BKBD := n3_; have BKBY := n4_; have BKC8 := n5_; have BKCj := n6_; have HOCq := n7_; have HB := n8_; clear n0_ n1_ n2_ n3_ n4_ n5_ n6_ n7_ n8_; (try clear hb); (try clear hkp); (try clear hy0)))
      (try simp only [Act.put, List.setIfInBounds_toArray, List.set_cons_zero, List.set_cons_succ])
      go_cut [61] (fun v61 wc => ∃ (kq : Nat) (x61_59 : Bool), v61 = .bool x61_59 ∧ Aside0 (laws_FnExactOtherRace.j1 kq tBX x61_59 a0_0 a0_1 a0_2 l0_3 a0_4 a0_5 a0_6 tBO tBP tBQ tBR tBU tBV tBW tC9 tCa tCb tCc tCf tCg tCh = some r) ∧ Aside0 (kq ≤ kj10) ∧ Aside0 (Kd.R k27 27 wc w.heap.size (fun k_ => some k_ ≠ ((.slice Ao29 tC2.length co29) : Value).ownBlock ∧ some k_ ≠ ((.slice Ao36 tCc.length co36) : Value).ownBlock) (.slice Ao22 tBR.length co22) tBR) ∧ Aside0 (Kd.R k27 27 wc w.heap.size (fun k_ => some k_ ≠ ((.slice Ao22 tBR.length co22) : Value).ownBlock ∧ some k_ ≠ ((.slice Ao36 tCc.length co36) : Value).ownBlock) (.slice Ao29 tC2.length co29) tCw) ∧ Aside0 (Kd.R k27 27 wc w.heap.size (fun k_ => some k_ ≠ ((.slice Ao22 tBR.length co22) : Value).ownBlock ∧ some k_ ≠ ((.slice Ao29 tC2.length co29) : Value).ownBlock) (.slice Ao36 tCc.length co36) tCc) ∧ Aside0 (wc.heap[gbBD]? = some (.cells #[.int .i64 a0_0, .int .i64 a0_1, .int .i64 a0_2, (.slice A0_3 l0_3.length c0_3), .int .i64 a0_4, .int .i64 a0_5, .int .i64 a0_6] 43 (0, 0))) ∧ Aside0 (wc.heap[gbBY]? = some (.cells #[.int .i64 tBO, .int .i64 tBP, .int .i64 tBQ, (.slice Ao22 tBR.length co22), .int .i64 tBU, .int .i64 tBV, .int .i64 tBW] 47 (0, 0))) ∧ Aside0 (wc.heap[gbC8]? = some (.cells #[.int .i64 tBZ, .int .i64 tC0, .int .i64 tC1, (.slice Ao29 tC2.length co29), .int .i64 tC5, .int .i64 tC6, .int .i64 tC7] 47 (0, 0))) ∧ Aside0 (wc.heap[gbCj]? = some (.cells #[.int .i64 tC9, .int .i64 tCa, .int .i64 tCb, (.slice Ao36 tCc.length co36), .int .i64 tCf, .int .i64 tCg, .int .i64 tCh] 47 (0, 0))) ∧ Aside0 (Below w.heap.size w wc))
      case first =>
       have H := HC60.out
       clear HC60
       by_cases c70 : tCv < 0
       ·rw [if_pos c70] at H
        have c70b0 : decide (tCv < 0) = true := decide_eq_true c70
        clear c70
        (first | rw [c70b0] | (simp only [i64_w, i32_w]; rw [c70b0]) | skip)
        have H' := Aside0.mk H
        clear H
        go_wp2
        go_meet
        case rel => exact ⟨_, (true), (by first | rfl | (simp; done) | (simp [*]; done)), H', ⟨by have := HJ10.out; first | omega | exact Nat.le_refl _⟩, ⟨by (with_reducible repeat (first | apply Kd.R_alloc | apply Kd.R_drewN | apply Kd.R_drew)); exact Kd.R_mono HO_BZ003.out (fun _ hk => ⟨hk.1, hk.2.1⟩)⟩, ⟨by (with_reducible repeat (first | apply Kd.R_alloc | apply Kd.R_drewN | apply Kd.R_drew)); exact Kd.R_mono HO_C9003.out (fun _ hk => ⟨hk.1.1, hk.1.2⟩)⟩, ⟨by (with_reducible repeat (first | apply Kd.R_alloc | apply Kd.R_drewN | apply Kd.R_drew)); exact Kd.R_mono HO_Ck003.out (fun _ hk => ⟨hk.1, hk.2.1⟩)⟩, ⟨by (with_reducible repeat (first | refine blk_drewN ?_ _ | refine blk_drew ?_ | refine blk_alloc ?_ _)); exact BKBD.out⟩, ⟨by (with_reducible repeat (first | refine blk_drewN ?_ _ | refine blk_drew ?_ | refine blk_alloc ?_ _)); exact BKBY.out⟩, ⟨by (with_reducible repeat (first | refine blk_drewN ?_ _ | refine blk_drew ?_ | refine blk_alloc ?_ _)); exact BKC8.out⟩, ⟨by (with_reducible repeat (first | refine blk_drewN ?_ _ | refine blk_drew ?_ | refine blk_alloc ?_ _)); exact BKCj.out⟩, ⟨by exact belS⟩⟩
       ·rw [if_neg c70] at H
        have c70b0 : decide (tCv < 0) = false := decide_eq_false c70
        clear c70
        (first | rw [c70b0] | (simp only [i64_w, i32_w]; rw [c70b0]) | skip)
        replace H := Option.bind_eq_some_iff.mp H
        obtain ⟨tCx, A710, H⟩ := H
        replace H : (if tCx = true then (laws_FnExactOtherRace.j1 kj10 tBX (tCi != tBX) a0_0 a0_1 a0_2 l0_3 a0_4 a0_5 a0_6 tBO tBP tBQ tBR tBU tBV tBW tC9 tCa tCb tCc tCf tCg tCh) else (laws_FnExactOtherRace.j1 kj10 tBX true a0_0 a0_1 a0_2 l0_3 a0_4 a0_5 a0_6 tBO tBP tBQ tBR tBU tBV tBW tC9 tCa tCb tCc tCf tCg tCh)) = some r := H
        have A71 := Aside0.mk A710
        clear A710
        by_cases c72 : tCx = true
        ·subst c72
         have H1 : (laws_FnExactOtherRace.j1 kj10 tBX (tCi != tBX) a0_0 a0_1 a0_2 l0_3 a0_4 a0_5 a0_6 tBO tBP tBQ tBR tBU tBV tBW tC9 tCa tCb tCc tCf tCg tCh) = some r := by rw [if_pos rfl] at H; exact H
         clear H
         have H := H1
         clear H1
         have H' := Aside0.mk H
         clear H
         have hnb73 := NBCj_BD.out
         have hnc73 := NBBD_Cj.out
         have hnb74 := NBCj_BY.out
         have hnc74 := NBBY_Cj.out
         have hnb75 := NBCj_C8.out
         have hnc75 := NBC8_Cj.out
         obtain ⟨hcz76_0, hcz76_1, hcz76_2, hcz76_3, hcz76_4, hcz76_5, hcz76_6, hfz76_0, hfz76_1, hfz76_2, hfz76_3, hfz76_4, hfz76_5, hfz76_6⟩ := blk7 BKCj.out
         have hnb77 := NBBY_BD.out
         have hnc77 := NBBD_BY.out
         have hnb78 := NBBY_C8.out
         have hnc78 := NBC8_BY.out
         obtain ⟨hcz79_0, hcz79_1, hcz79_2, hcz79_3, hcz79_4, hcz79_5, hcz79_6, hfz79_0, hfz79_1, hfz79_2, hfz79_3, hfz79_4, hfz79_5, hfz79_6⟩ := blk7 BKBY.out
         go_wp2_with (first | (go_at_call 53; (with_reducible refine (laws_eqRace.calls kj10 tC9 tCa tCb _ _ tCc tCf tCg tCh tBO tBP tBQ _ _ tBR tBU tBV tBW true _ ?side1 ?side2 ?side3 ?side4 A71.out).mono ?_); (case side1 => exact Kd.C_up (Kd.R_reads' HO_Ck003.out).2.2); (case side2 => exact (Kd.R_reads' HO_Ck003.out).2.1); (case side3 => exact Kd.C_up (Kd.R_reads' HO_BZ003.out).2.2); (case side4 => exact (Kd.R_reads' HO_BZ003.out).2.1); rintro e w80 ⟨rfl, hb⟩; have n0_ := Aside0.mk (Kd.R_below (Kd.R_up HO_BZ003.out) hb); have n1_ := Aside0.mk (Kd.R_below (Kd.R_up HO_C9003.out) hb); have n2_ := Aside0.mk (Kd.R_below (Kd.R_up HO_Ck003.out) hb); have n3_ := Aside0.mk (Kd.R_below (Kd.R_up HOCq.out) hb); have n4_ := Aside0.mk (blk_below (blk_up BKBD.out) hb); have n5_ := Aside0.mk (blk_below (blk_up BKBY.out) hb); have n6_ := Aside0.mk (blk_below (blk_up BKC8.out) hb); have n7_ := Aside0.mk (blk_below (blk_up BKCj.out) hb); have n8_ := Aside0.mk (below_step belS hb); clear HO_BZ003; clear HO_C9003; clear HO_Ck003; clear HOCq; clear BKBD; clear BKBY; clear BKC8; clear BKCj; clear HB; have HO_BZ003 := n0_; have HO_C9003 := n1_; have HO_Ck003 := n2_; have HOCq := n3_; have BKBD := n4_; have BKBY := n5_; have BKC8 := n6_; have BKCj := n7_; have HB := n8_; clear n0_ n1_ n2_ n3_ n4_ n5_ n6_ n7_ n8_; (try clear hb); (try clear hb2); (try clear hk); (try clear hi)))
         go_meet
         case rel => exact ⟨_, ((tCi != tBX)), (by first | rfl | (simp; done) | (simp [*]; done)), H', ⟨by have := HJ10.out; first | omega | exact Nat.le_refl _⟩, ⟨by (with_reducible repeat (first | apply Kd.R_alloc | apply Kd.R_drewN | apply Kd.R_drew)); exact Kd.R_mono HO_BZ003.out (fun _ hk => ⟨hk.1, hk.2.1⟩)⟩, ⟨by (with_reducible repeat (first | apply Kd.R_alloc | apply Kd.R_drewN | apply Kd.R_drew)); exact Kd.R_mono HO_C9003.out (fun _ hk => ⟨hk.1.1, hk.1.2⟩)⟩, ⟨by (with_reducible repeat (first | apply Kd.R_alloc | apply Kd.R_drewN | apply Kd.R_drew)); exact Kd.R_mono HO_Ck003.out (fun _ hk => ⟨hk.1, hk.2.1⟩)⟩, ⟨by (with_reducible repeat (first | refine blk_drewN ?_ _ | refine blk_drew ?_ | refine blk_alloc ?_ _)); exact BKBD.out⟩, ⟨by (with_reducible repeat (first | refine blk_drewN ?_ _ | refine blk_drew ?_ | refine blk_alloc ?_ _)); exact BKBY.out⟩, ⟨by (with_reducible repeat (first | refine blk_drewN ?_ _ | refine blk_drew ?_ | refine blk_alloc ?_ _)); exact BKC8.out⟩, ⟨by (with_reducible repeat (first | refine blk_drewN ?_ _ | refine blk_drew ?_ | refine blk_alloc ?_ _)); exact BKCj.out⟩, ⟨by exact belS⟩⟩
        ·replace c72 := Bool.eq_false_iff.mpr c72
         subst c72
         have H1 : (laws_FnExactOtherRace.j1 kj10 tBX true a0_0 a0_1 a0_2 l0_3 a0_4 a0_5 a0_6 tBO tBP tBQ tBR tBU tBV tBW tC9 tCa tCb tCc tCf tCg tCh) = some r := by rw [if_neg (show ¬ (false = true) by decide)] at H; exact H
         clear H
         have H := H1
         clear H1
         have H' := Aside0.mk H
         clear H
         have hnb81 := NBCj_BD.out
         have hnc81 := NBBD_Cj.out
         have hnb82 := NBCj_BY.out
         have hnc82 := NBBY_Cj.out
         have hnb83 := NBCj_C8.out
         have hnc83 := NBC8_Cj.out
         obtain ⟨hcz84_0, hcz84_1, hcz84_2, hcz84_3, hcz84_4, hcz84_5, hcz84_6, hfz84_0, hfz84_1, hfz84_2, hfz84_3, hfz84_4, hfz84_5, hfz84_6⟩ := blk7 BKCj.out
         have hnb85 := NBBY_BD.out
         have hnc85 := NBBD_BY.out
         have hnb86 := NBBY_C8.out
         have hnc86 := NBC8_BY.out
         obtain ⟨hcz87_0, hcz87_1, hcz87_2, hcz87_3, hcz87_4, hcz87_5, hcz87_6, hfz87_0, hfz87_1, hfz87_2, hfz87_3, hfz87_4, hfz87_5, hfz87_6⟩ := blk7 BKBY.out
         go_wp2_with (first | (go_at_call 53; (with_reducible refine (laws_eqRace.calls kj10 tC9 tCa tCb _ _ tCc tCf tCg tCh tBO tBP tBQ _ _ tBR tBU tBV tBW false _ ?side1 ?side2 ?side3 ?side4 A71.out).mono ?_); (case side1 => exact Kd.C_up (Kd.R_reads' HO_Ck003.out).2.2); (case side2 => exact (Kd.R_reads' HO_Ck003.out).2.1); (case side3 => exact Kd.C_up (Kd.R_reads' HO_BZ003.out).2.2); (case side4 => exact (Kd.R_reads' HO_BZ003.out).2.1); rintro e w88 ⟨rfl, hb⟩; have n0_ := Aside0.mk (Kd.R_below (Kd.R_up HO_BZ003.out) hb); have n1_ := Aside0.mk (Kd.R_below (Kd.R_up HO_C9003.out) hb); have n2_ := Aside0.mk (Kd.R_below (Kd.R_up HO_Ck003.out) hb); have n3_ := Aside0.mk (Kd.R_below (Kd.R_up HOCq.out) hb); have n4_ := Aside0.mk (blk_below (blk_up BKBD.out) hb); have n5_ := Aside0.mk (blk_below (blk_up BKBY.out) hb); have n6_ := Aside0.mk (blk_below (blk_up BKC8.out) hb); have n7_ := Aside0.mk (blk_below (blk_up BKCj.out) hb); have n8_ := Aside0.mk (below_step belS hb); clear HO_BZ003; clear HO_C9003; clear HO_Ck003; clear HOCq; clear BKBD; clear BKBY; clear BKC8; clear BKCj; clear HB; have HO_BZ003 := n0_; have HO_C9003 := n1_; have HO_Ck003 := n2_; have HOCq := n3_; have BKBD := n4_; have BKBY := n5_; have BKC8 := n6_; have BKCj := n7_; have HB := n8_; clear n0_ n1_ n2_ n3_ n4_ n5_ n6_ n7_ n8_; (try clear hb); (try clear hb2); (try clear hk); (try clear hi)))
         go_meet
         case rel => exact ⟨_, (true), (by first | rfl | (simp; done) | (simp [*]; done)), H', ⟨by have := HJ10.out; first | omega | exact Nat.le_refl _⟩, ⟨by (with_reducible repeat (first | apply Kd.R_alloc | apply Kd.R_drewN | apply Kd.R_drew)); exact Kd.R_mono HO_BZ003.out (fun _ hk => ⟨hk.1, hk.2.1⟩)⟩, ⟨by (with_reducible repeat (first | apply Kd.R_alloc | apply Kd.R_drewN | apply Kd.R_drew)); exact Kd.R_mono HO_C9003.out (fun _ hk => ⟨hk.1.1, hk.1.2⟩)⟩, ⟨by (with_reducible repeat (first | apply Kd.R_alloc | apply Kd.R_drewN | apply Kd.R_drew)); exact Kd.R_mono HO_Ck003.out (fun _ hk => ⟨hk.1, hk.2.1⟩)⟩, ⟨by (with_reducible repeat (first | refine blk_drewN ?_ _ | refine blk_drew ?_ | refine blk_alloc ?_ _)); exact BKBD.out⟩, ⟨by (with_reducible repeat (first | refine blk_drewN ?_ _ | refine blk_drew ?_ | refine blk_alloc ?_ _)); exact BKBY.out⟩, ⟨by (with_reducible repeat (first | refine blk_drewN ?_ _ | refine blk_drew ?_ | refine blk_alloc ?_ _)); exact BKC8.out⟩, ⟨by (with_reducible repeat (first | refine blk_drewN ?_ _ | refine blk_drew ?_ | refine blk_alloc ?_ _)); exact BKCj.out⟩, ⟨by exact belS⟩⟩
      case rest =>
       clear HC60
       try clear c1
       try clear c2
       try clear p2
       try clear c3
       try clear c3b0
       try clear c4
       try clear c5
       try clear c6
       try clear c7
       try clear c8
       try clear c13
       try clear c20
       try clear c26
       try clear c27
       try clear c32
       try clear c33
       try clear c34
       try clear c38
       try clear c39
       try clear c40
       try clear c41
       try clear c43
       try clear c44
       try clear c47
       try clear c48
       try clear c49
       try clear c51
       try clear c52
       try clear c53
       try clear c55
       try clear c58
       try clear c65
       try clear c66
       try clear c67
       try clear c70
       try clear c70b0
       try clear c72
       try clear c73
       try clear c74
       try clear c75
       try clear c77
       try clear c78
       try clear c81
       try clear c82
       try clear c83
       try clear c85
       try clear c86
       try clear hcz13_0 hcz13_1 hcz13_2 hcz13_3 hcz13_4 hcz13_5 hcz13_6
       try clear hcz15_0 hcz15_1 hcz15_2 hcz15_3 hcz15_4 hcz15_5 hcz15_6
       try clear hcz21_0 hcz21_1 hcz21_2 hcz21_3 hcz21_4 hcz21_5 hcz21_6
       try clear hcz23_0 hcz23_1 hcz23_2 hcz23_3 hcz23_4 hcz23_5 hcz23_6
       try clear hcz28_0 hcz28_1 hcz28_2 hcz28_3 hcz28_4 hcz28_5 hcz28_6
       try clear hcz35_0 hcz35_1 hcz35_2 hcz35_3 hcz35_4 hcz35_5 hcz35_6
       try clear hcz42_0 hcz42_1 hcz42_2 hcz42_3 hcz42_4 hcz42_5 hcz42_6
       try clear hcz45_0 hcz45_1 hcz45_2 hcz45_3 hcz45_4 hcz45_5 hcz45_6
       try clear hcz50_0 hcz50_1 hcz50_2 hcz50_3 hcz50_4 hcz50_5 hcz50_6
       try clear hcz53_0 hcz53_1 hcz53_2 hcz53_3 hcz53_4 hcz53_5 hcz53_6
       try clear hcz5_0 hcz5_1 hcz5_2 hcz5_3 hcz5_4 hcz5_5 hcz5_6
       try clear hcz68_0 hcz68_1 hcz68_2 hcz68_3 hcz68_4 hcz68_5 hcz68_6
       try clear hcz76_0 hcz76_1 hcz76_2 hcz76_3 hcz76_4 hcz76_5 hcz76_6
       try clear hcz79_0 hcz79_1 hcz79_2 hcz79_3 hcz79_4 hcz79_5 hcz79_6
       try clear hcz84_0 hcz84_1 hcz84_2 hcz84_3 hcz84_4 hcz84_5 hcz84_6
       try clear hcz87_0 hcz87_1 hcz87_2 hcz87_3 hcz87_4 hcz87_5 hcz87_6
       try clear hfz13_0 hfz13_1 hfz13_2 hfz13_3 hfz13_4 hfz13_5 hfz13_6
       try clear hfz15_0 hfz15_1 hfz15_2 hfz15_3 hfz15_4 hfz15_5 hfz15_6
       try clear hfz21_0 hfz21_1 hfz21_2 hfz21_3 hfz21_4 hfz21_5 hfz21_6
       try clear hfz23_0 hfz23_1 hfz23_2 hfz23_3 hfz23_4 hfz23_5 hfz23_6
       try clear hfz28_0 hfz28_1 hfz28_2 hfz28_3 hfz28_4 hfz28_5 hfz28_6
       try clear hfz35_0 hfz35_1 hfz35_2 hfz35_3 hfz35_4 hfz35_5 hfz35_6
       try clear hfz42_0 hfz42_1 hfz42_2 hfz42_3 hfz42_4 hfz42_5 hfz42_6
       try clear hfz45_0 hfz45_1 hfz45_2 hfz45_3 hfz45_4 hfz45_5 hfz45_6
       try clear hfz50_0 hfz50_1 hfz50_2 hfz50_3 hfz50_4 hfz50_5 hfz50_6
       try clear hfz53_0 hfz53_1 hfz53_2 hfz53_3 hfz53_4 hfz53_5 hfz53_6
       try clear hfz5_0 hfz5_1 hfz5_2 hfz5_3 hfz5_4 hfz5_5 hfz5_6
       try clear hfz68_0 hfz68_1 hfz68_2 hfz68_3 hfz68_4 hfz68_5 hfz68_6
       try clear hfz76_0 hfz76_1 hfz76_2 hfz76_3 hfz76_4 hfz76_5 hfz76_6
       try clear hfz79_0 hfz79_1 hfz79_2 hfz79_3 hfz79_4 hfz79_5 hfz79_6
       try clear hfz84_0 hfz84_1 hfz84_2 hfz84_3 hfz84_4 hfz84_5 hfz84_6
       try clear hfz87_0 hfz87_1 hfz87_2 hfz87_3 hfz87_4 hfz87_5 hfz87_6
       try clear p2
       obtain ⟨kq, x61_59, rfl, HA, HJ59, HO_BZ003, HO_C9003, HO_Ck003, BKBD, BKBY, BKC8, BKCj, HB⟩ := hcut
       have hlC9003_59 := (Kd.R_reads' HO_C9003.out).1
       rw [hlC9003_59] at HO_C9003
       (try simp only [hlC9003_59])
       (try simp only [hlC9003_59] at BKBD)
       (try simp only [hlC9003_59] at BKBY)
       (try simp only [hlC9003_59] at BKC8)
       (try simp only [hlC9003_59] at BKCj)
       (try simp only [hlC9003_59] at HO_BZ003)
       (try simp only [hlC9003_59] at HO_Ck003)
       cases kq with
       | zero => exact absurd HA.out (by simp [laws_FnExactOtherRace.j1])
       | succ kj59 =>
        have H := HA.out
        clear HA
        simp only [laws_FnExactOtherRace.j1] at H
        by_cases c89 : x61_59 = true
        ·subst c89
         have H1 : (some false) = some r := by rw [if_pos rfl] at H; exact H
         clear H
         have H := H1
         clear H1
         obtain rfl := Option.some.inj H
         go_wp2
         go_ret
         exact ⟨by first | rfl | (simp [errW_none, errW_some] <;> rfl) | (simp [*, errW_none, errW_some] <;> rfl), by exact belS⟩
        ·replace c89 := Bool.eq_false_iff.mpr c89
         subst c89
         have H1 : ((laws_markRace.f kj59 tC9 tCa tCb tCc tCf tCg tCh 1).bind fun btCy => ((laws_heldRace.f kj59 tC9 tCa tCb btCy.2 tCf tCg tCh 1).bind fun tCA => (if tCA < 0 then (some false) else (if tCA = btCy.1 then ((laws_toRace.f kj59 a0_0 a0_1 a0_2 l0_3 a0_4 a0_5 a0_6).bind fun btCB => ((impl_OtherRace.f kj59 btCB.1 btCB.2.1 btCB.2.2.1 btCB.2.2.2.1 btCB.2.2.2.2.1 btCB.2.2.2.2.2.1 btCB.2.2.2.2.2.2).bind fun btCK => ((laws_eqRace.f kj59 btCK.1 btCK.2.1 btCK.2.2.1 btCK.2.2.2.1 btCK.2.2.2.2.1 btCK.2.2.2.2.2.1 btCK.2.2.2.2.2.2.1 tBO tBP tBQ tBR tBU tBV tBW).bind fun tCV => (if tCV = true then (laws_FnExactOtherRace.j2 kj59 btCy.1 (btCK.2.2.2.2.2.2.2 != tBX) tC9 tCa tCb btCy.2 tCf tCg tCh) else (laws_FnExactOtherRace.j2 kj59 btCy.1 true tC9 tCa tCb btCy.2 tCf tCg tCh))))) else (some false))))) = some r := by rw [if_neg (show ¬ (false = true) by decide)] at H; exact H
         clear H
         have H := H1
         clear H1
         replace H := Option.bind_eq_some_iff.mp H
         obtain ⟨⟨tCy, tCz⟩, A900, H⟩ := H
         replace H : ((laws_heldRace.f kj59 tC9 tCa tCb tCz tCf tCg tCh 1).bind fun tCA => (if tCA < 0 then (some false) else (if tCA = tCy then ((laws_toRace.f kj59 a0_0 a0_1 a0_2 l0_3 a0_4 a0_5 a0_6).bind fun btCB => ((impl_OtherRace.f kj59 btCB.1 btCB.2.1 btCB.2.2.1 btCB.2.2.2.1 btCB.2.2.2.2.1 btCB.2.2.2.2.2.1 btCB.2.2.2.2.2.2).bind fun btCK => ((laws_eqRace.f kj59 btCK.1 btCK.2.1 btCK.2.2.1 btCK.2.2.2.1 btCK.2.2.2.2.1 btCK.2.2.2.2.2.1 btCK.2.2.2.2.2.2.1 tBO tBP tBQ tBR tBU tBV tBW).bind fun tCV => (if tCV = true then (laws_FnExactOtherRace.j2 kj59 tCy (btCK.2.2.2.2.2.2.2 != tBX) tC9 tCa tCb tCz tCf tCg tCh) else (laws_FnExactOtherRace.j2 kj59 tCy true tC9 tCa tCb tCz tCf tCg tCh))))) else (some false)))) = some r := H
         have A90 := Aside0.mk A900
         clear A900
         replace H := Option.bind_eq_some_iff.mp H
         obtain ⟨tCA, A910, H⟩ := H
         replace H : (if tCA < 0 then (some false) else (if tCA = tCy then ((laws_toRace.f kj59 a0_0 a0_1 a0_2 l0_3 a0_4 a0_5 a0_6).bind fun btCB => ((impl_OtherRace.f kj59 btCB.1 btCB.2.1 btCB.2.2.1 btCB.2.2.2.1 btCB.2.2.2.2.1 btCB.2.2.2.2.2.1 btCB.2.2.2.2.2.2).bind fun btCK => ((laws_eqRace.f kj59 btCK.1 btCK.2.1 btCK.2.2.1 btCK.2.2.2.1 btCK.2.2.2.2.1 btCK.2.2.2.2.2.1 btCK.2.2.2.2.2.2.1 tBO tBP tBQ tBR tBU tBV tBW).bind fun tCV => (if tCV = true then (laws_FnExactOtherRace.j2 kj59 tCy (btCK.2.2.2.2.2.2.2 != tBX) tC9 tCa tCb tCz tCf tCg tCh) else (laws_FnExactOtherRace.j2 kj59 tCy true tC9 tCa tCb tCz tCf tCg tCh))))) else (some false))) = some r := H
         have A91 := Aside0.mk A910
         clear A910
         by_cases c92 : tCA < 0
         ·rw [if_pos c92] at H
          have c92b0 : decide (tCA < 0) = true := decide_eq_true c92
          clear c92
          obtain rfl := Option.some.inj H
          have hnb93 := NBCj_BD.out
          have hnc93 := NBBD_Cj.out
          have hnb94 := NBCj_BY.out
          have hnc94 := NBBY_Cj.out
          have hnb95 := NBCj_C8.out
          have hnc95 := NBC8_Cj.out
          obtain ⟨hcz96_0, hcz96_1, hcz96_2, hcz96_3, hcz96_4, hcz96_5, hcz96_6, hfz96_0, hfz96_1, hfz96_2, hfz96_3, hfz96_4, hfz96_5, hfz96_6⟩ := blk7 BKCj.out
          go_wp2_with (first | ((with_reducible refine gate_callee (f := 75) rfl ?_); refine goesL_ (some 64) rfl rfl Try.func75 (by kernel_rfl) rfl #[.agg #[.int .i64 tC9, .int .i64 tCa, .int .i64 tCb, .slice Ao36 tCc.length co36, .int .i64 tCf, .int .i64 tCg, .int .i64 tCh], .int .i64 1] rfl argS ?_; (with_reducible refine (laws_markRace.calls kj59 tC9 tCa tCb (fun k_ => some k_ = (.slice Ao36 tCc.length co36 : Value).ownBlock) (.slice Ao36 tCc.length co36) tCc tCf tCg tCh 1 tCy tCz w _ ?side1 ?side2 A90.out).mono ?_); (case side1 => exact belS); (case side2 => exact Kd.R_tight rfl HO_Ck003.out); rintro e w97 ⟨rfl, hy0, hb, hkp⟩; refine ⟨_, rfl, ?_⟩; have n0_ := Aside0.mk (Kd.R_mono (ok' := fun k_ => some k_ ≠ (.slice Ao29 tCw.length co29 : Value).ownBlock ∧ some k_ ≠ (.slice Ao36 tCc.length co36 : Value).ownBlock) (Kd.R_keptB (HO_BZ003.out) hkp (fun k_ hk_ hs_ => (hk_.2) hs_)) (fun k_ hk_ => ⟨hk_.1.1, hk_.1.2⟩)); have n1_ := Aside0.mk (Kd.R_mono (ok' := fun k_ => some k_ ≠ (.slice Ao22 tBR.length co22 : Value).ownBlock ∧ some k_ ≠ (.slice Ao36 tCc.length co36 : Value).ownBlock) (Kd.R_keptB (HO_C9003.out) hkp (fun k_ hk_ hs_ => (hk_.2) hs_)) (fun k_ hk_ => ⟨hk_.1.1, hk_.1.2⟩)); have n2_ := Aside0.mk (Kd.R_reok rfl hy0 (fun k_ e_ => HO_Ck003.out.1 k_ e_)); have n3_ := Aside0.mk (blk_kept (blk_up BKBD.out) hkp (fun hs_ => (fun e_ => (Kd.R_ne HO_Ck003.out BKBD.out (by decide)) e_) hs_)); have n4_ := Aside0.mk (blk_kept (blk_up BKBY.out) hkp (fun hs_ => (fun e_ => (Kd.R_ne HO_Ck003.out BKBY.out (by decide)) e_) hs_)); have n5_ := Aside0.mk (blk_kept (blk_up BKC8.out) hkp (fun hs_ => (fun e_ => (Kd.R_ne HO_Ck003.out BKC8.out (by decide)) e_) hs_)); have n6_ := Aside0.mk (blk_kept (blk_up BKCj.out) hkp (fun hs_ => (fun e_ => (Kd.R_ne HO_Ck003.out BKCj.out (by decide)) e_) hs_)); have n7_ := Aside0.mk (hb); clear HO_BZ003; clear HO_C9003; clear HO_Ck003; clear BKBD; clear BKBY; clear BKC8; clear BKCj; clear HB; have HO_BZ003 := n0_; have HO_C9003 := n1_; have HO_Ck003 := n2_; have BKBD := n3_; have BKBY := n4_; have BKC8 := n5_; have BKCj := n6_; have HB := n7_; clear n0_ n1_ n2_ n3_ n4_ n5_ n6_ n7_; (try clear hb); (try clear hkp); (try clear hy0); obtain ⟨hcz98_0, hcz98_1, hcz98_2, hcz98_3, hcz98_4, hcz98_5, hcz98_6, hfz98_0, hfz98_1, hfz98_2, hfz98_3, hfz98_4, hfz98_5, hfz98_6⟩ := blk7 BKCj.out) | ((with_reducible refine gate_callee (f := 76) rfl ?_); refine goesL_ (some 67) rfl rfl Try.func76 (by kernel_rfl) rfl #[.agg #[.int .i64 tC9, .int .i64 tCa, .int .i64 tCb, .slice Ao36 tCz.length co36, .int .i64 tCf, .int .i64 tCg, .int .i64 tCh], .int .i64 1] rfl (by (try simp only [List.map_toArray, List.map_cons, List.map_nil]); first | done | (rw [show tCz.length = tCc.length from (Kd.R_reads' HO_Ck003.out).1.symm] <;> rfl) | rfl | (simp only [List.length_drop, List.length_take]; rfl)) ?_; (with_reducible refine (laws_heldRace.calls kj59 tC9 tCa tCb _ _ tCz tCf tCg tCh 1 tCA _ ?side1 ?side2 A91.out).mono ?_); (case side1 => exact Kd.C_up (Kd.R_reads' HO_Ck003.out).2.2); (case side2 => rw [show tCz.length = tCc.length from (Kd.R_reads' HO_Ck003.out).1.symm]; exact (Kd.R_reads' HO_Ck003.out).2.1); rintro e w99 ⟨rfl, hb⟩; refine ⟨_, rfl, ?_⟩; have n0_ := Aside0.mk (Kd.R_below (Kd.R_up HO_BZ003.out) hb); have n1_ := Aside0.mk (Kd.R_below (Kd.R_up HO_C9003.out) hb); have n2_ := Aside0.mk (Kd.R_below (Kd.R_up HO_Ck003.out) hb); have n3_ := Aside0.mk (blk_below (blk_up BKBD.out) hb); have n4_ := Aside0.mk (blk_below (blk_up BKBY.out) hb); have n5_ := Aside0.mk (blk_below (blk_up BKC8.out) hb); have n6_ := Aside0.mk (blk_below (blk_up BKCj.out) hb); have n7_ := Aside0.mk (below_step belS hb); clear HO_BZ003; clear HO_C9003; clear HO_Ck003; clear BKBD; clear BKBY; clear BKC8; clear BKCj; clear HB; have HO_BZ003 := n0_; have HO_C9003 := n1_; have HO_Ck003 := n2_; have BKBD := n3_; have BKBY := n4_; have BKC8 := n5_; have BKCj := n6_; have HB := n7_; clear n0_ n1_ n2_ n3_ n4_ n5_ n6_ n7_; (try clear hb); (try clear hb2); (try clear hk); (try clear hi)))
          go_ret
          exact ⟨by first | rfl | (simp [errW_none, errW_some] <;> rfl) | (simp [*, errW_none, errW_some] <;> rfl), by exact belS⟩
         ·rw [if_neg c92] at H
          have c92b0 : decide (tCA < 0) = false := decide_eq_false c92
          clear c92
          by_cases c100 : tCA = tCy
          ·rw [if_pos c100] at H
           have c100b0 : (tCA == tCy) = true := beq_iff_eq.mpr c100
           have c100b1 : (tCA != tCy) = false := bne_eq_false_iff_eq.mpr c100
           clear c100
           replace H := Option.bind_eq_some_iff.mp H
           obtain ⟨⟨tCB, tCC, tCD, tCE, tCH, tCI, tCJ⟩, A1010, H⟩ := H
           replace H : ((impl_OtherRace.f kj59 tCB tCC tCD tCE tCH tCI tCJ).bind fun btCK => ((laws_eqRace.f kj59 btCK.1 btCK.2.1 btCK.2.2.1 btCK.2.2.2.1 btCK.2.2.2.2.1 btCK.2.2.2.2.2.1 btCK.2.2.2.2.2.2.1 tBO tBP tBQ tBR tBU tBV tBW).bind fun tCV => (if tCV = true then (laws_FnExactOtherRace.j2 kj59 tCy (btCK.2.2.2.2.2.2.2 != tBX) tC9 tCa tCb tCz tCf tCg tCh) else (laws_FnExactOtherRace.j2 kj59 tCy true tC9 tCa tCb tCz tCf tCg tCh)))) = some r := H
           have A101 := Aside0.mk A1010
           clear A1010
           replace H := Option.bind_eq_some_iff.mp H
           obtain ⟨⟨tCK, tCL, tCM, tCN, tCQ, tCR, tCS, tCT⟩, A1020, H⟩ := H
           replace H : ((laws_eqRace.f kj59 tCK tCL tCM tCN tCQ tCR tCS tBO tBP tBQ tBR tBU tBV tBW).bind fun tCV => (if tCV = true then (laws_FnExactOtherRace.j2 kj59 tCy (tCT != tBX) tC9 tCa tCb tCz tCf tCg tCh) else (laws_FnExactOtherRace.j2 kj59 tCy true tC9 tCa tCb tCz tCf tCg tCh))) = some r := H
           have A102 := Aside0.mk A1020
           clear A1020
           have HC103 := Aside0.mk H
           clear H
           have hnb104 := NBCj_BD.out
           have hnc104 := NBBD_Cj.out
           have hnb105 := NBCj_BY.out
           have hnc105 := NBBY_Cj.out
           have hnb106 := NBCj_C8.out
           have hnc106 := NBC8_Cj.out
           obtain ⟨hcz107_0, hcz107_1, hcz107_2, hcz107_3, hcz107_4, hcz107_5, hcz107_6, hfz107_0, hfz107_1, hfz107_2, hfz107_3, hfz107_4, hfz107_5, hfz107_6⟩ := blk7 BKCj.out
           go_upto_region 25 with (first | ((with_reducible refine gate_callee (f := 75) rfl ?_); refine goesL_ (some 64) rfl rfl Try.func75 (by kernel_rfl) rfl #[.agg #[.int .i64 tC9, .int .i64 tCa, .int .i64 tCb, .slice Ao36 tCc.length co36, .int .i64 tCf, .int .i64 tCg, .int .i64 tCh], .int .i64 1] rfl argS ?_; (with_reducible refine (laws_markRace.calls kj59 tC9 tCa tCb (fun k_ => some k_ = (.slice Ao36 tCc.length co36 : Value).ownBlock) (.slice Ao36 tCc.length co36) tCc tCf tCg tCh 1 tCy tCz w _ ?side1 ?side2 A90.out).mono ?_); (case side1 => exact belS); (case side2 => exact Kd.R_tight rfl HO_Ck003.out); rintro e w108 ⟨rfl, hy0, hb, hkp⟩; refine ⟨_, rfl, ?_⟩; have n0_ := Aside0.mk (Kd.R_mono (ok' := fun k_ => some k_ ≠ (.slice Ao29 tCw.length co29 : Value).ownBlock ∧ some k_ ≠ (.slice Ao36 tCc.length co36 : Value).ownBlock) (Kd.R_keptB (HO_BZ003.out) hkp (fun k_ hk_ hs_ => (hk_.2) hs_)) (fun k_ hk_ => ⟨hk_.1.1, hk_.1.2⟩)); have n1_ := Aside0.mk (Kd.R_mono (ok' := fun k_ => some k_ ≠ (.slice Ao22 tBR.length co22 : Value).ownBlock ∧ some k_ ≠ (.slice Ao36 tCc.length co36 : Value).ownBlock) (Kd.R_keptB (HO_C9003.out) hkp (fun k_ hk_ hs_ => (hk_.2) hs_)) (fun k_ hk_ => ⟨hk_.1.1, hk_.1.2⟩)); have n2_ := Aside0.mk (Kd.R_reok rfl hy0 (fun k_ e_ => HO_Ck003.out.1 k_ e_)); have n3_ := Aside0.mk (blk_kept (blk_up BKBD.out) hkp (fun hs_ => (fun e_ => (Kd.R_ne HO_Ck003.out BKBD.out (by decide)) e_) hs_)); have n4_ := Aside0.mk (blk_kept (blk_up BKBY.out) hkp (fun hs_ => (fun e_ => (Kd.R_ne HO_Ck003.out BKBY.out (by decide)) e_) hs_)); have n5_ := Aside0.mk (blk_kept (blk_up BKC8.out) hkp (fun hs_ => (fun e_ => (Kd.R_ne HO_Ck003.out BKC8.out (by decide)) e_) hs_)); have n6_ := Aside0.mk (blk_kept (blk_up BKCj.out) hkp (fun hs_ => (fun e_ => (Kd.R_ne HO_Ck003.out BKCj.out (by decide)) e_) hs_)); have n7_ := Aside0.mk (hb); clear HO_BZ003; clear HO_C9003; clear HO_Ck003; clear BKBD; clear BKBY; clear BKC8; clear BKCj; clear HB; have HO_BZ003 := n0_; have HO_C9003 := n1_; have HO_Ck003 := n2_; have BKBD := n3_; have BKBY := n4_; have BKC8 := n5_; have BKCj := n6_; have HB := n7_; clear n0_ n1_ n2_ n3_ n4_ n5_ n6_ n7_; (try clear hb); (try clear hkp); (try clear hy0); obtain ⟨hcz109_0, hcz109_1, hcz109_2, hcz109_3, hcz109_4, hcz109_5, hcz109_6, hfz109_0, hfz109_1, hfz109_2, hfz109_3, hfz109_4, hfz109_5, hfz109_6⟩ := blk7 BKCj.out) | ((with_reducible refine gate_callee (f := 76) rfl ?_); refine goesL_ (some 67) rfl rfl Try.func76 (by kernel_rfl) rfl #[.agg #[.int .i64 tC9, .int .i64 tCa, .int .i64 tCb, .slice Ao36 tCz.length co36, .int .i64 tCf, .int .i64 tCg, .int .i64 tCh], .int .i64 1] rfl (by (try simp only [List.map_toArray, List.map_cons, List.map_nil]); first | done | (rw [show tCz.length = tCc.length from (Kd.R_reads' HO_Ck003.out).1.symm] <;> rfl) | rfl | (simp only [List.length_drop, List.length_take]; rfl)) ?_; (with_reducible refine (laws_heldRace.calls kj59 tC9 tCa tCb _ _ tCz tCf tCg tCh 1 tCA _ ?side1 ?side2 A91.out).mono ?_); (case side1 => exact Kd.C_up (Kd.R_reads' HO_Ck003.out).2.2); (case side2 => rw [show tCz.length = tCc.length from (Kd.R_reads' HO_Ck003.out).1.symm]; exact (Kd.R_reads' HO_Ck003.out).2.1); rintro e w110 ⟨rfl, hb⟩; refine ⟨_, rfl, ?_⟩; have n0_ := Aside0.mk (Kd.R_below (Kd.R_up HO_BZ003.out) hb); have n1_ := Aside0.mk (Kd.R_below (Kd.R_up HO_C9003.out) hb); have n2_ := Aside0.mk (Kd.R_below (Kd.R_up HO_Ck003.out) hb); have n3_ := Aside0.mk (blk_below (blk_up BKBD.out) hb); have n4_ := Aside0.mk (blk_below (blk_up BKBY.out) hb); have n5_ := Aside0.mk (blk_below (blk_up BKC8.out) hb); have n6_ := Aside0.mk (blk_below (blk_up BKCj.out) hb); have n7_ := Aside0.mk (below_step belS hb); clear HO_BZ003; clear HO_C9003; clear HO_Ck003; clear BKBD; clear BKBY; clear BKC8; clear BKCj; clear HB; have HO_BZ003 := n0_; have HO_C9003 := n1_; have HO_Ck003 := n2_; have BKBD := n3_; have BKBY := n4_; have BKC8 := n5_; have BKCj := n6_; have HB := n7_; clear n0_ n1_ n2_ n3_ n4_ n5_ n6_ n7_; (try clear hb); (try clear hb2); (try clear hk); (try clear hi); have hnb111 := NBBD_BY.out; have hnc111 := NBBY_BD.out; have hnb112 := NBBD_C8.out; have hnc112 := NBC8_BD.out; obtain ⟨hcz113_0, hcz113_1, hcz113_2, hcz113_3, hcz113_4, hcz113_5, hcz113_6, hfz113_0, hfz113_1, hfz113_2, hfz113_3, hfz113_4, hfz113_5, hfz113_6⟩ := blk7 BKBD.out) | ((with_reducible refine gate_callee (f := 51) rfl ?_); refine goesL_ (some 75) rfl rfl Try.func51 (by kernel_rfl) rfl #[.agg #[.int .i64 a0_0, .int .i64 a0_1, .int .i64 a0_2, .slice A0_3 l0_3.length c0_3, .int .i64 a0_4, .int .i64 a0_5, .int .i64 a0_6]] rfl argS ?_; (with_reducible refine (laws_toRace.calls kj59 a0_0 a0_1 a0_2 _ _ l0_3 a0_4 a0_5 a0_6 tCB tCC tCD tCE tCH tCI tCJ _ ?side1 ?side2 A101.out).mono ?_); (case side1 => exact Kd.C_up (Kd.C_below HR0_3.out HB.out)); (case side2 => exact HC0_3.out); rintro e w114 ⟨vCF, rfl, ho0, hb⟩; refine ⟨_, rfl, ?_⟩; have n0_ := Aside0.mk (Kd.R_elder' (Kd.R_up HO_BZ003.out) (Kd.R_base ho0) hb); have n1_ := Aside0.mk (Kd.R_elder' (Kd.R_up HO_C9003.out) (Kd.R_base ho0) hb); have n2_ := Aside0.mk (Kd.R_elder' (Kd.R_up HO_Ck003.out) (Kd.R_base ho0) hb); have n3_ := Aside0.mk (Kd.R_lower (Kd.R_new' (Kd.R_new' (Kd.R_new' ho0 (Kd.R_lt (Kd.R_up HO_BZ003.out))) (Kd.R_lt (Kd.R_up HO_C9003.out))) (Kd.R_lt (Kd.R_up HO_Ck003.out))) (below_size belS)); have n4_ := Aside0.mk (blk_below (blk_up BKBD.out) hb); have n5_ := Aside0.mk (blk_below (blk_up BKBY.out) hb); have n6_ := Aside0.mk (blk_below (blk_up BKC8.out) hb); have n7_ := Aside0.mk (blk_below (blk_up BKCj.out) hb); have n8_ := Aside0.mk (below_step belS hb); clear HO_BZ003; clear HO_C9003; clear HO_Ck003; clear BKBD; clear BKBY; clear BKC8; clear BKCj; clear HB; have HO_BZ003 := n0_; have HO_C9003 := n1_; have HO_Ck003 := n2_; have HOCG := n3_; have BKBD := n4_; have BKBY := n5_; have BKC8 := n6_; have BKCj := n7_; have HB := n8_; clear n0_ n1_ n2_ n3_ n4_ n5_ n6_ n7_ n8_; (try clear hb); (try clear hb2); (try clear hk); (try clear hi); (try clear ho0); obtain ⟨Ao115, co115, eo115⟩ := Kd.R_slice HOCG.out; subst eo115) | ((with_reducible refine gate_callee (f := 74) rfl ?_); refine goesL_ (some 76) rfl rfl Try.func74 (by kernel_rfl) rfl #[.agg #[.int .i64 tCB, .int .i64 tCC, .int .i64 tCD, .slice Ao115 tCE.length co115, .int .i64 tCH, .int .i64 tCI, .int .i64 tCJ]] rfl argS ?_; (with_reducible refine (impl_OtherRace.calls kj59 tCB tCC tCD _ _ tCE tCH tCI tCJ tCK tCL tCM tCN tCQ tCR tCS tCT _ ?side1 ?side2 A102.out).mono ?_); (case side1 => exact Kd.C_up (Kd.R_reads' HOCG.out).2.2); (case side2 => exact (Kd.R_reads' HOCG.out).2.1); rintro e w116 ⟨vCO, rfl, ho0, hb⟩; refine ⟨_, rfl, ?_⟩; have n0_ := Aside0.mk (Kd.R_elder' (Kd.R_up HO_BZ003.out) (Kd.R_base ho0) hb); have n1_ := Aside0.mk (Kd.R_elder' (Kd.R_up HO_C9003.out) (Kd.R_base ho0) hb); have n2_ := Aside0.mk (Kd.R_elder' (Kd.R_up HO_Ck003.out) (Kd.R_base ho0) hb); have n3_ := Aside0.mk (Kd.R_elder' (Kd.R_up HOCG.out) (Kd.R_base ho0) hb); have n4_ := Aside0.mk (Kd.R_lower (Kd.R_new' (Kd.R_new' (Kd.R_new' (Kd.R_new' ho0 (Kd.R_lt (Kd.R_up HO_BZ003.out))) (Kd.R_lt (Kd.R_up HO_C9003.out))) (Kd.R_lt (Kd.R_up HO_Ck003.out))) (Kd.R_lt (Kd.R_up HOCG.out))) (below_size belS)); have n5_ := Aside0.mk (blk_below (blk_up BKBD.out) hb); have n6_ := Aside0.mk (blk_below (blk_up BKBY.out) hb); have n7_ := Aside0.mk (blk_below (blk_up BKC8.out) hb); have n8_ := Aside0.mk (blk_below (blk_up BKCj.out) hb); have n9_ := Aside0.mk (below_step belS hb); clear HO_BZ003; clear HO_C9003; clear HO_Ck003; clear HOCG; clear BKBD; clear BKBY; clear BKC8; clear BKCj; clear HB; have HO_BZ003 := n0_; have HO_C9003 := n1_; have HO_Ck003 := n2_; have HOCG := n3_; have HOCP := n4_; have BKBD := n5_; have BKBY := n6_; have BKC8 := n7_; have BKCj := n8_; have HB := n9_; clear n0_ n1_ n2_ n3_ n4_ n5_ n6_ n7_ n8_ n9_; (try clear hb); (try clear hb2); (try clear hk); (try clear hi); (try clear ho0)) | ((with_reducible refine gate_dst (N := 12) rfl ?_); refine box_event ?hg (N := 12) ?hd (cs := #[.int .i64 0, .int .i64 0, .int .i64 0, .slice none 0 0, .int .i64 0, .int .i64 0, .int .i64 0]) (t := 47) ?hr ?_; (case hd => rfl); (case hg => rfl); (case hr => first | (go_simp; done) | (go_simp; rfl)); intro gbCU hg w117 hbox hb; have n0_ := Aside0.mk (Kd.R_below (Kd.R_up HO_BZ003.out) hb); have n1_ := Aside0.mk (Kd.R_below (Kd.R_up HO_C9003.out) hb); have n2_ := Aside0.mk (Kd.R_below (Kd.R_up HO_Ck003.out) hb); have n3_ := Aside0.mk (Kd.R_below (Kd.R_up HOCG.out) hb); have n4_ := Aside0.mk (Kd.R_below (Kd.R_up HOCP.out) hb); have n5_ := Aside0.mk (blk_below (blk_up BKBD.out) hb); have n6_ := Aside0.mk (blk_below (blk_up BKBY.out) hb); have n7_ := Aside0.mk (blk_below (blk_up BKC8.out) hb); have n8_ := Aside0.mk (blk_below (blk_up BKCj.out) hb); have n9_ := Aside0.mk (below_step belS hb); have n10_ := Aside0.mk (hbox); have n11_ := Aside0.mk ((by rw [hg]; exact (below_size belS) : w.heap.size ≤ gbCU)); have n12_ := n11_; have n13_ := Aside0.mk ((by rw [hg]; exact Nat.ne_of_lt (blk_lt (blk_up BKBD.out)) : gbBD ≠ gbCU)); have n14_ := Aside0.mk ((by rw [hg]; exact Nat.ne_of_gt (blk_lt (blk_up BKBD.out)) : gbCU ≠ gbBD)); have n15_ := Aside0.mk ((by rw [hg]; exact Nat.ne_of_lt (blk_lt (blk_up BKBY.out)) : gbBY ≠ gbCU)); have n16_ := Aside0.mk ((by rw [hg]; exact Nat.ne_of_gt (blk_lt (blk_up BKBY.out)) : gbCU ≠ gbBY)); have n17_ := Aside0.mk ((by rw [hg]; exact Nat.ne_of_lt (blk_lt (blk_up BKC8.out)) : gbC8 ≠ gbCU)); have n18_ := Aside0.mk ((by rw [hg]; exact Nat.ne_of_gt (blk_lt (blk_up BKC8.out)) : gbCU ≠ gbC8)); have n19_ := Aside0.mk ((by rw [hg]; exact Nat.ne_of_lt (blk_lt (blk_up BKCj.out)) : gbCj ≠ gbCU)); have n20_ := Aside0.mk ((by rw [hg]; exact Nat.ne_of_gt (blk_lt (blk_up BKCj.out)) : gbCU ≠ gbCj)); clear HO_BZ003; clear HO_C9003; clear HO_Ck003; clear HOCG; clear HOCP; clear BKBD; clear BKBY; clear BKC8; clear BKCj; clear HB; have HO_BZ003 := n0_; have HO_C9003 := n1_; have HO_Ck003 := n2_; have HOCG := n3_; have HOCP := n4_; have BKBD := n5_; have BKBY := n6_; have BKC8 := n7_; have BKCj := n8_; have HB := n9_; have BKCU := n10_; have GWCU := n11_; have GECU := n12_; have NBBD_CU := n13_; have NBCU_BD := n14_; have NBBY_CU := n15_; have NBCU_BY := n16_; have NBC8_CU := n17_; have NBCU_C8 := n18_; have NBCj_CU := n19_; have NBCU_Cj := n20_; clear n0_ n1_ n2_ n3_ n4_ n5_ n6_ n7_ n8_ n9_ n10_ n11_ n12_ n13_ n14_ n15_ n16_ n17_ n18_ n19_ n20_; clear hb hbox hg; have hnb118 := NBCU_BD.out; have hnc118 := NBBD_CU.out; have hnb119 := NBCU_BY.out; have hnc119 := NBBY_CU.out; have hnb120 := NBCU_C8.out; have hnc120 := NBC8_CU.out; have hnb121 := NBCU_Cj.out; have hnc121 := NBCj_CU.out; obtain ⟨hcz122_0, hcz122_1, hcz122_2, hcz122_3, hcz122_4, hcz122_5, hcz122_6, hfz122_0, hfz122_1, hfz122_2, hfz122_3, hfz122_4, hfz122_5, hfz122_6⟩ := blk7 BKCU.out; obtain ⟨Ao123, co123, eo123⟩ := Kd.R_slice HOCP.out; subst eo123))
           (try simp only [Act.put, List.setIfInBounds_toArray, List.set_cons_zero, List.set_cons_succ])
           go_cut [87] (fun v87 wc => ∃ (kq : Nat) (x87_102 : Bool), v87 = .bool x87_102 ∧ Aside0 (laws_FnExactOtherRace.j2 kq tCy x87_102 tC9 tCa tCb tCz tCf tCg tCh = some r) ∧ Aside0 (kq ≤ kj59) ∧ Aside0 (Kd.R k27 27 wc w.heap.size (fun k_ => some k_ ≠ ((.slice Ao29 tCw.length co29) : Value).ownBlock ∧ some k_ ≠ ((.slice Ao36 tCc.length co36) : Value).ownBlock ∧ some k_ ≠ ((.slice Ao123 tCN.length co123) : Value).ownBlock) (.slice Ao22 tBR.length co22) tBR) ∧ Aside0 (Kd.R k27 27 wc w.heap.size (fun k_ => some k_ ≠ ((.slice Ao22 tBR.length co22) : Value).ownBlock ∧ some k_ ≠ ((.slice Ao36 tCc.length co36) : Value).ownBlock ∧ some k_ ≠ ((.slice Ao123 tCN.length co123) : Value).ownBlock) (.slice Ao29 tCw.length co29) tCw) ∧ Aside0 (Kd.R k27 27 wc w.heap.size (fun k_ => some k_ ≠ ((.slice Ao22 tBR.length co22) : Value).ownBlock ∧ some k_ ≠ ((.slice Ao29 tCw.length co29) : Value).ownBlock ∧ some k_ ≠ ((.slice Ao123 tCN.length co123) : Value).ownBlock) (.slice Ao36 tCc.length co36) tCz) ∧ Aside0 (Kd.R k27 27 wc w.heap.size (fun k_ => some k_ ≠ ((.slice Ao22 tBR.length co22) : Value).ownBlock ∧ some k_ ≠ ((.slice Ao29 tCw.length co29) : Value).ownBlock ∧ some k_ ≠ ((.slice Ao36 tCc.length co36) : Value).ownBlock) (.slice Ao123 tCN.length co123) tCN) ∧ Aside0 (wc.heap[gbBD]? = some (.cells #[.int .i64 a0_0, .int .i64 a0_1, .int .i64 a0_2, (.slice A0_3 l0_3.length c0_3), .int .i64 a0_4, .int .i64 a0_5, .int .i64 a0_6] 43 (0, 0))) ∧ Aside0 (wc.heap[gbBY]? = some (.cells #[.int .i64 tBO, .int .i64 tBP, .int .i64 tBQ, (.slice Ao22 tBR.length co22), .int .i64 tBU, .int .i64 tBV, .int .i64 tBW] 47 (0, 0))) ∧ Aside0 (wc.heap[gbC8]? = some (.cells #[.int .i64 tBZ, .int .i64 tC0, .int .i64 tC1, (.slice Ao29 tCw.length co29), .int .i64 tC5, .int .i64 tC6, .int .i64 tC7] 47 (0, 0))) ∧ Aside0 (wc.heap[gbCj]? = some (.cells #[.int .i64 tC9, .int .i64 tCa, .int .i64 tCb, (.slice Ao36 tCc.length co36), .int .i64 tCf, .int .i64 tCg, .int .i64 tCh] 47 (0, 0))) ∧ Aside0 (wc.heap[gbCU]? = some (.cells #[.int .i64 tCK, .int .i64 tCL, .int .i64 tCM, (.slice Ao123 tCN.length co123), .int .i64 tCQ, .int .i64 tCR, .int .i64 tCS] 47 (0, 0))) ∧ Aside0 (Below w.heap.size w wc))
           case first =>
            have H := HC103.out
            clear HC103
            replace H := Option.bind_eq_some_iff.mp H
            obtain ⟨tCV, A1240, H⟩ := H
            replace H : (if tCV = true then (laws_FnExactOtherRace.j2 kj59 tCy (tCT != tBX) tC9 tCa tCb tCz tCf tCg tCh) else (laws_FnExactOtherRace.j2 kj59 tCy true tC9 tCa tCb tCz tCf tCg tCh)) = some r := H
            have A124 := Aside0.mk A1240
            clear A1240
            by_cases c125 : tCV = true
            ·subst c125
             have H1 : (laws_FnExactOtherRace.j2 kj59 tCy (tCT != tBX) tC9 tCa tCb tCz tCf tCg tCh) = some r := by rw [if_pos rfl] at H; exact H
             clear H
             have H := H1
             clear H1
             have H' := Aside0.mk H
             clear H
             have hnb126 := NBCU_BD.out
             have hnc126 := NBBD_CU.out
             have hnb127 := NBCU_BY.out
             have hnc127 := NBBY_CU.out
             have hnb128 := NBCU_C8.out
             have hnc128 := NBC8_CU.out
             have hnb129 := NBCU_Cj.out
             have hnc129 := NBCj_CU.out
             obtain ⟨hcz130_0, hcz130_1, hcz130_2, hcz130_3, hcz130_4, hcz130_5, hcz130_6, hfz130_0, hfz130_1, hfz130_2, hfz130_3, hfz130_4, hfz130_5, hfz130_6⟩ := blk7 BKCU.out
             have hnb131 := NBBY_BD.out
             have hnc131 := NBBD_BY.out
             have hnb132 := NBBY_C8.out
             have hnc132 := NBC8_BY.out
             have hnb133 := NBBY_Cj.out
             have hnc133 := NBCj_BY.out
             obtain ⟨hcz134_0, hcz134_1, hcz134_2, hcz134_3, hcz134_4, hcz134_5, hcz134_6, hfz134_0, hfz134_1, hfz134_2, hfz134_3, hfz134_4, hfz134_5, hfz134_6⟩ := blk7 BKBY.out
             go_wp2_with (first | ((with_reducible refine gate_callee (f := 53) rfl ?_); refine goesL_ (some 81) rfl rfl Try.func53 (by kernel_rfl) rfl #[.agg #[.int .i64 tCK, .int .i64 tCL, .int .i64 tCM, .slice Ao123 tCN.length co123, .int .i64 tCQ, .int .i64 tCR, .int .i64 tCS], .agg #[.int .i64 tBO, .int .i64 tBP, .int .i64 tBQ, .slice Ao22 tBR.length co22, .int .i64 tBU, .int .i64 tBV, .int .i64 tBW]] rfl argS ?_; (with_reducible refine (laws_eqRace.calls kj59 tCK tCL tCM _ _ tCN tCQ tCR tCS tBO tBP tBQ _ _ tBR tBU tBV tBW true _ ?side1 ?side2 ?side3 ?side4 A124.out).mono ?_); (case side1 => refine (Kd.R_reads' (e := 27) (base := w.heap.size) (ok := fun k_ => ((((True ∧ some k_ ≠ (.slice Ao22 tBR.length co22 : Value).ownBlock) ∧ some k_ ≠ (.slice Ao29 tCw.length co29 : Value).ownBlock) ∧ some k_ ≠ (.slice Ao36 tCc.length co36 : Value).ownBlock) ∧ some k_ ≠ (.slice Ao115 tCE.length co115 : Value).ownBlock)) (n := tCN.length) (c := co123) ?_).2.2; exact (by (with_reducible repeat (first | apply Kd.R_alloc | apply Kd.R_drewN | apply Kd.R_drew)); exact (Kd.R_mono (Kd.R_far (p := ⟨gbCU, 6, none⟩) (Kd.R_far (p := ⟨gbCU, 5, none⟩) (Kd.R_far (p := ⟨gbCU, 4, none⟩) (Kd.R_far (p := ⟨gbCU, 3, none⟩) (Kd.R_far (p := ⟨gbCU, 2, none⟩) (Kd.R_far (p := ⟨gbCU, 1, none⟩) (Kd.R_far (p := ⟨gbCU, 0, none⟩) (Kd.R_types HOCP.out BKCU.out (by decide)) (fun _ hk => hk.2) (.int .i64 tCK)) (fun _ hk => hk.2) (.int .i64 tCL)) (fun _ hk => hk.2) (.int .i64 tCM)) (fun _ hk => hk.2) (.slice Ao123 tCN.length co123)) (fun _ hk => hk.2) (.int .i64 tCQ)) (fun _ hk => hk.2) (.int .i64 tCR)) (fun _ hk => hk.2) (.int .i64 tCS)) (fun _ h_ => h_.1)))); (case side2 => exact (Kd.R_reads' HOCP.out).2.1); (case side3 => refine (Kd.R_reads' (e := 27) (base := w.heap.size) (ok := fun k_ => (((some k_ ≠ (.slice Ao29 tCw.length co29 : Value).ownBlock ∧ some k_ ≠ (.slice Ao36 tCc.length co36 : Value).ownBlock) ∧ some k_ ≠ (.slice Ao115 tCE.length co115 : Value).ownBlock) ∧ some k_ ≠ (.slice Ao123 tCN.length co123 : Value).ownBlock)) (n := tBR.length) (c := co22) ?_).2.2; exact (by (with_reducible repeat (first | apply Kd.R_alloc | apply Kd.R_drewN | apply Kd.R_drew)); exact (Kd.R_mono (Kd.R_far (p := ⟨gbCU, 6, none⟩) (Kd.R_far (p := ⟨gbCU, 5, none⟩) (Kd.R_far (p := ⟨gbCU, 4, none⟩) (Kd.R_far (p := ⟨gbCU, 3, none⟩) (Kd.R_far (p := ⟨gbCU, 2, none⟩) (Kd.R_far (p := ⟨gbCU, 1, none⟩) (Kd.R_far (p := ⟨gbCU, 0, none⟩) (Kd.R_types HO_BZ003.out BKCU.out (by decide)) (fun _ hk => hk.2) (.int .i64 tCK)) (fun _ hk => hk.2) (.int .i64 tCL)) (fun _ hk => hk.2) (.int .i64 tCM)) (fun _ hk => hk.2) (.slice Ao123 tCN.length co123)) (fun _ hk => hk.2) (.int .i64 tCQ)) (fun _ hk => hk.2) (.int .i64 tCR)) (fun _ hk => hk.2) (.int .i64 tCS)) (fun _ h_ => h_.1)))); (case side4 => exact (Kd.R_reads' HO_BZ003.out).2.1); rintro e w135 ⟨rfl, hb⟩; refine ⟨_, rfl, ?_⟩; have n0_ := Aside0.mk (Kd.R_below (by (with_reducible repeat (first | apply Kd.R_alloc | apply Kd.R_drewN | apply Kd.R_drew)); exact (Kd.R_mono (Kd.R_far (p := ⟨gbCU, 6, none⟩) (Kd.R_far (p := ⟨gbCU, 5, none⟩) (Kd.R_far (p := ⟨gbCU, 4, none⟩) (Kd.R_far (p := ⟨gbCU, 3, none⟩) (Kd.R_far (p := ⟨gbCU, 2, none⟩) (Kd.R_far (p := ⟨gbCU, 1, none⟩) (Kd.R_far (p := ⟨gbCU, 0, none⟩) (Kd.R_types HO_BZ003.out BKCU.out (by decide)) (fun _ hk => hk.2) (.int .i64 tCK)) (fun _ hk => hk.2) (.int .i64 tCL)) (fun _ hk => hk.2) (.int .i64 tCM)) (fun _ hk => hk.2) (.slice Ao123 tCN.length co123)) (fun _ hk => hk.2) (.int .i64 tCQ)) (fun _ hk => hk.2) (.int .i64 tCR)) (fun _ hk => hk.2) (.int .i64 tCS)) (fun _ h_ => h_.1))) hb); have n1_ := Aside0.mk (Kd.R_below (by (with_reducible repeat (first | apply Kd.R_alloc | apply Kd.R_drewN | apply Kd.R_drew)); exact (Kd.R_mono (Kd.R_far (p := ⟨gbCU, 6, none⟩) (Kd.R_far (p := ⟨gbCU, 5, none⟩) (Kd.R_far (p := ⟨gbCU, 4, none⟩) (Kd.R_far (p := ⟨gbCU, 3, none⟩) (Kd.R_far (p := ⟨gbCU, 2, none⟩) (Kd.R_far (p := ⟨gbCU, 1, none⟩) (Kd.R_far (p := ⟨gbCU, 0, none⟩) (Kd.R_types HO_C9003.out BKCU.out (by decide)) (fun _ hk => hk.2) (.int .i64 tCK)) (fun _ hk => hk.2) (.int .i64 tCL)) (fun _ hk => hk.2) (.int .i64 tCM)) (fun _ hk => hk.2) (.slice Ao123 tCN.length co123)) (fun _ hk => hk.2) (.int .i64 tCQ)) (fun _ hk => hk.2) (.int .i64 tCR)) (fun _ hk => hk.2) (.int .i64 tCS)) (fun _ h_ => h_.1))) hb); have n2_ := Aside0.mk (Kd.R_below (by (with_reducible repeat (first | apply Kd.R_alloc | apply Kd.R_drewN | apply Kd.R_drew)); exact (Kd.R_mono (Kd.R_far (p := ⟨gbCU, 6, none⟩) (Kd.R_far (p := ⟨gbCU, 5, none⟩) (Kd.R_far (p := ⟨gbCU, 4, none⟩) (Kd.R_far (p := ⟨gbCU, 3, none⟩) (Kd.R_far (p := ⟨gbCU, 2, none⟩) (Kd.R_far (p := ⟨gbCU, 1, none⟩) (Kd.R_far (p := ⟨gbCU, 0, none⟩) (Kd.R_types HO_Ck003.out BKCU.out (by decide)) (fun _ hk => hk.2) (.int .i64 tCK)) (fun _ hk => hk.2) (.int .i64 tCL)) (fun _ hk => hk.2) (.int .i64 tCM)) (fun _ hk => hk.2) (.slice Ao123 tCN.length co123)) (fun _ hk => hk.2) (.int .i64 tCQ)) (fun _ hk => hk.2) (.int .i64 tCR)) (fun _ hk => hk.2) (.int .i64 tCS)) (fun _ h_ => h_.1))) hb); have n3_ := Aside0.mk (Kd.R_below (by (with_reducible repeat (first | apply Kd.R_alloc | apply Kd.R_drewN | apply Kd.R_drew)); exact (Kd.R_mono (Kd.R_far (p := ⟨gbCU, 6, none⟩) (Kd.R_far (p := ⟨gbCU, 5, none⟩) (Kd.R_far (p := ⟨gbCU, 4, none⟩) (Kd.R_far (p := ⟨gbCU, 3, none⟩) (Kd.R_far (p := ⟨gbCU, 2, none⟩) (Kd.R_far (p := ⟨gbCU, 1, none⟩) (Kd.R_far (p := ⟨gbCU, 0, none⟩) (Kd.R_types HOCG.out BKCU.out (by decide)) (fun _ hk => hk.2) (.int .i64 tCK)) (fun _ hk => hk.2) (.int .i64 tCL)) (fun _ hk => hk.2) (.int .i64 tCM)) (fun _ hk => hk.2) (.slice Ao123 tCN.length co123)) (fun _ hk => hk.2) (.int .i64 tCQ)) (fun _ hk => hk.2) (.int .i64 tCR)) (fun _ hk => hk.2) (.int .i64 tCS)) (fun _ h_ => h_.1))) hb); have n4_ := Aside0.mk (Kd.R_below (by (with_reducible repeat (first | apply Kd.R_alloc | apply Kd.R_drewN | apply Kd.R_drew)); exact (Kd.R_mono (Kd.R_far (p := ⟨gbCU, 6, none⟩) (Kd.R_far (p := ⟨gbCU, 5, none⟩) (Kd.R_far (p := ⟨gbCU, 4, none⟩) (Kd.R_far (p := ⟨gbCU, 3, none⟩) (Kd.R_far (p := ⟨gbCU, 2, none⟩) (Kd.R_far (p := ⟨gbCU, 1, none⟩) (Kd.R_far (p := ⟨gbCU, 0, none⟩) (Kd.R_types HOCP.out BKCU.out (by decide)) (fun _ hk => hk.2) (.int .i64 tCK)) (fun _ hk => hk.2) (.int .i64 tCL)) (fun _ hk => hk.2) (.int .i64 tCM)) (fun _ hk => hk.2) (.slice Ao123 tCN.length co123)) (fun _ hk => hk.2) (.int .i64 tCQ)) (fun _ hk => hk.2) (.int .i64 tCR)) (fun _ hk => hk.2) (.int .i64 tCS)) (fun _ h_ => h_.1))) hb); have n5_ := Aside0.mk (blk_below (g := gbBD) (o := .cells #[.int .i64 a0_0, .int .i64 a0_1, .int .i64 a0_2, .slice A0_3 l0_3.length c0_3, .int .i64 a0_4, .int .i64 a0_5, .int .i64 a0_6] 43 (0, 0)) (by (with_reducible repeat (first | refine blk_drewN ?_ _ | refine blk_drew ?_ | refine blk_alloc ?_ _)); refine blk_far ?_ NBBD_CU.out _; (with_reducible repeat (first | refine blk_drewN ?_ _ | refine blk_drew ?_ | refine blk_alloc ?_ _)); refine blk_far ?_ NBBD_CU.out _; (with_reducible repeat (first | refine blk_drewN ?_ _ | refine blk_drew ?_ | refine blk_alloc ?_ _)); refine blk_far ?_ NBBD_CU.out _; (with_reducible repeat (first | refine blk_drewN ?_ _ | refine blk_drew ?_ | refine blk_alloc ?_ _)); refine blk_far ?_ NBBD_CU.out _; (with_reducible repeat (first | refine blk_drewN ?_ _ | refine blk_drew ?_ | refine blk_alloc ?_ _)); refine blk_far ?_ NBBD_CU.out _; (with_reducible repeat (first | refine blk_drewN ?_ _ | refine blk_drew ?_ | refine blk_alloc ?_ _)); refine blk_far ?_ NBBD_CU.out _; (with_reducible repeat (first | refine blk_drewN ?_ _ | refine blk_drew ?_ | refine blk_alloc ?_ _)); refine blk_far ?_ NBBD_CU.out _; (with_reducible repeat (first | refine blk_drewN ?_ _ | refine blk_drew ?_ | refine blk_alloc ?_ _)); exact BKBD.out) hb); have n6_ := Aside0.mk (blk_below (g := gbBY) (o := .cells #[.int .i64 tBO, .int .i64 tBP, .int .i64 tBQ, .slice Ao22 tBR.length co22, .int .i64 tBU, .int .i64 tBV, .int .i64 tBW] 47 (0, 0)) (by (with_reducible repeat (first | refine blk_drewN ?_ _ | refine blk_drew ?_ | refine blk_alloc ?_ _)); refine blk_far ?_ NBBY_CU.out _; (with_reducible repeat (first | refine blk_drewN ?_ _ | refine blk_drew ?_ | refine blk_alloc ?_ _)); refine blk_far ?_ NBBY_CU.out _; (with_reducible repeat (first | refine blk_drewN ?_ _ | refine blk_drew ?_ | refine blk_alloc ?_ _)); refine blk_far ?_ NBBY_CU.out _; (with_reducible repeat (first | refine blk_drewN ?_ _ | refine blk_drew ?_ | refine blk_alloc ?_ _)); refine blk_far ?_ NBBY_CU.out _; (with_reducible repeat (first | refine blk_drewN ?_ _ | refine blk_drew ?_ | refine blk_alloc ?_ _)); refine blk_far ?_ NBBY_CU.out _; (with_reducible repeat (first | refine blk_drewN ?_ _ | refine blk_drew ?_ | refine blk_alloc ?_ _)); refine blk_far ?_ NBBY_CU.out _; (with_reducible repeat (first | refine blk_drewN ?_ _ | refine blk_drew ?_ | refine blk_alloc ?_ _)); refine blk_far ?_ NBBY_CU.out _; (with_reducible repeat (first | refine blk_drewN ?_ _ | refine blk_drew ?_ | refine blk_alloc ?_ _)); exact BKBY.out) hb); have n7_ := Aside0.mk (blk_below (g := gbC8) (o := .cells #[.int .i64 tBZ, .int .i64 tC0, .int .i64 tC1, .slice Ao29 tCw.length co29, .int .i64 tC5, .int .i64 tC6, .int .i64 tC7] 47 (0, 0)) (by (with_reducible repeat (first | refine blk_drewN ?_ _ | refine blk_drew ?_ | refine blk_alloc ?_ _)); refine blk_far ?_ NBC8_CU.out _; (with_reducible repeat (first | refine blk_drewN ?_ _ | refine blk_drew ?_ | refine blk_alloc ?_ _)); refine blk_far ?_ NBC8_CU.out _; (with_reducible repeat (first | refine blk_drewN ?_ _ | refine blk_drew ?_ | refine blk_alloc ?_ _)); refine blk_far ?_ NBC8_CU.out _; (with_reducible repeat (first | refine blk_drewN ?_ _ | refine blk_drew ?_ | refine blk_alloc ?_ _)); refine blk_far ?_ NBC8_CU.out _; (with_reducible repeat (first | refine blk_drewN ?_ _ | refine blk_drew ?_ | refine blk_alloc ?_ _)); refine blk_far ?_ NBC8_CU.out _; (with_reducible repeat (first | refine blk_drewN ?_ _ | refine blk_drew ?_ | refine blk_alloc ?_ _)); refine blk_far ?_ NBC8_CU.out _; (with_reducible repeat (first | refine blk_drewN ?_ _ | refine blk_drew ?_ | refine blk_alloc ?_ _)); refine blk_far ?_ NBC8_CU.out _; (with_reducible repeat (first | refine blk_drewN ?_ _ | refine blk_drew ?_ | refine blk_alloc ?_ _)); exact BKC8.out) hb); have n8_ := Aside0.mk (blk_below (g := gbCj) (o := .cells #[.int .i64 tC9, .int .i64 tCa, .int .i64 tCb, .slice Ao36 tCc.length co36, .int .i64 tCf, .int .i64 tCg, .int .i64 tCh] 47 (0, 0)) (by (with_reducible repeat (first | refine blk_drewN ?_ _ | refine blk_drew ?_ | refine blk_alloc ?_ _)); refine blk_far ?_ NBCj_CU.out _; (with_reducible repeat (first | refine blk_drewN ?_ _ | refine blk_drew ?_ | refine blk_alloc ?_ _)); refine blk_far ?_ NBCj_CU.out _; (with_reducible repeat (first | refine blk_drewN ?_ _ | refine blk_drew ?_ | refine blk_alloc ?_ _)); refine blk_far ?_ NBCj_CU.out _; (with_reducible repeat (first | refine blk_drewN ?_ _ | refine blk_drew ?_ | refine blk_alloc ?_ _)); refine blk_far ?_ NBCj_CU.out _; (with_reducible repeat (first | refine blk_drewN ?_ _ | refine blk_drew ?_ | refine blk_alloc ?_ _)); refine blk_far ?_ NBCj_CU.out _; (with_reducible repeat (first | refine blk_drewN ?_ _ | refine blk_drew ?_ | refine blk_alloc ?_ _)); refine blk_far ?_ NBCj_CU.out _; (with_reducible repeat (first | refine blk_drewN ?_ _ | refine blk_drew ?_ | refine blk_alloc ?_ _)); refine blk_far ?_ NBCj_CU.out _; (with_reducible repeat (first | refine blk_drewN ?_ _ | refine blk_drew ?_ | refine blk_alloc ?_ _)); exact BKCj.out) hb); have n9_ := Aside0.mk (blk_below (g := gbCU) (o := .cells #[.int .i64 tCK, .int .i64 tCL, .int .i64 tCM, .slice Ao123 tCN.length co123, .int .i64 tCQ, .int .i64 tCR, .int .i64 tCS] 47 (0, 0)) (by (with_reducible repeat (first | refine blk_drewN ?_ _ | refine blk_drew ?_ | refine blk_alloc ?_ _)); refine blk_put (cs := #[.int .i64 tCK, .int .i64 tCL, .int .i64 tCM, .slice Ao123 tCN.length co123, .int .i64 tCQ, .int .i64 tCR, .int .i64 0]) ?_ 6 _ rfl; (with_reducible repeat (first | refine blk_drewN ?_ _ | refine blk_drew ?_ | refine blk_alloc ?_ _)); refine blk_put (cs := #[.int .i64 tCK, .int .i64 tCL, .int .i64 tCM, .slice Ao123 tCN.length co123, .int .i64 tCQ, .int .i64 0, .int .i64 0]) ?_ 5 _ rfl; (with_reducible repeat (first | refine blk_drewN ?_ _ | refine blk_drew ?_ | refine blk_alloc ?_ _)); refine blk_put (cs := #[.int .i64 tCK, .int .i64 tCL, .int .i64 tCM, .slice Ao123 tCN.length co123, .int .i64 0, .int .i64 0, .int .i64 0]) ?_ 4 _ rfl; (with_reducible repeat (first | refine blk_drewN ?_ _ | refine blk_drew ?_ | refine blk_alloc ?_ _)); refine blk_put (cs := #[.int .i64 tCK, .int .i64 tCL, .int .i64 tCM, .slice none 0 0, .int .i64 0, .int .i64 0, .int .i64 0]) ?_ 3 _ rfl; (with_reducible repeat (first | refine blk_drewN ?_ _ | refine blk_drew ?_ | refine blk_alloc ?_ _)); refine blk_put (cs := #[.int .i64 tCK, .int .i64 tCL, .int .i64 0, .slice none 0 0, .int .i64 0, .int .i64 0, .int .i64 0]) ?_ 2 _ rfl; (with_reducible repeat (first | refine blk_drewN ?_ _ | refine blk_drew ?_ | refine blk_alloc ?_ _)); refine blk_put (cs := #[.int .i64 tCK, .int .i64 0, .int .i64 0, .slice none 0 0, .int .i64 0, .int .i64 0, .int .i64 0]) ?_ 1 _ rfl; (with_reducible repeat (first | refine blk_drewN ?_ _ | refine blk_drew ?_ | refine blk_alloc ?_ _)); refine blk_put (cs := #[.int .i64 0, .int .i64 0, .int .i64 0, .slice none 0 0, .int .i64 0, .int .i64 0, .int .i64 0]) ?_ 0 _ rfl; (with_reducible repeat (first | refine blk_drewN ?_ _ | refine blk_drew ?_ | refine blk_alloc ?_ _)); exact BKCU.out) hb); have n10_ := Aside0.mk (below_step belS hb); clear HO_BZ003; clear HO_C9003; clear HO_Ck003; clear HOCG; clear HOCP; clear BKBD; clear BKBY; clear BKC8; clear BKCj; clear BKCU; clear HB; have HO_BZ003 := n0_; have HO_C9003 := n1_; have HO_Ck003 := n2_; have HOCG := n3_; have HOCP := n4_; have BKBD := n5_; have BKBY := n6_; have BKC8 := n7_; have BKCj := n8_; have BKCU := n9_; have HB := n10_; clear n0_ n1_ n2_ n3_ n4_ n5_ n6_ n7_ n8_ n9_ n10_; (try clear hb); (try clear hb2); (try clear hk); (try clear hi)))
             go_meet
             case rel => exact ⟨_, ((tCT != tBX)), (by first | rfl | (simp; done) | (simp [*]; done)), H', ⟨by have := HJ10.out; have := HJ59.out; first | omega | exact Nat.le_refl _⟩, ⟨by (try simp only [hlC9003_59]); (with_reducible repeat (first | apply Kd.R_alloc | apply Kd.R_drewN | apply Kd.R_drew)); exact Kd.R_mono HO_BZ003.out (fun _ hk => ⟨hk.1.1.1, ⟨hk.1.1.2, hk.2⟩⟩)⟩, ⟨by (try simp only [hlC9003_59]); (with_reducible repeat (first | apply Kd.R_alloc | apply Kd.R_drewN | apply Kd.R_drew)); exact Kd.R_mono HO_C9003.out (fun _ hk => ⟨hk.1.1.1, ⟨hk.1.1.2, hk.2⟩⟩)⟩, ⟨by (try simp only [hlC9003_59]); (with_reducible repeat (first | apply Kd.R_alloc | apply Kd.R_drewN | apply Kd.R_drew)); exact Kd.R_mono HO_Ck003.out (fun _ hk => ⟨hk.1.1.1, ⟨hk.1.1.2, hk.2⟩⟩)⟩, ⟨by (try simp only [hlC9003_59]); (with_reducible repeat (first | apply Kd.R_alloc | apply Kd.R_drewN | apply Kd.R_drew)); exact Kd.R_mono HOCP.out (fun _ hk => ⟨hk.1.1.1.2, ⟨hk.1.1.2, hk.1.2⟩⟩)⟩, ⟨by (try simp only [hlC9003_59]); (with_reducible repeat (first | refine blk_drewN ?_ _ | refine blk_drew ?_ | refine blk_alloc ?_ _)); exact BKBD.out⟩, ⟨by (try simp only [hlC9003_59]); (with_reducible repeat (first | refine blk_drewN ?_ _ | refine blk_drew ?_ | refine blk_alloc ?_ _)); exact BKBY.out⟩, ⟨by (try simp only [hlC9003_59]); (with_reducible repeat (first | refine blk_drewN ?_ _ | refine blk_drew ?_ | refine blk_alloc ?_ _)); exact BKC8.out⟩, ⟨by (try simp only [hlC9003_59]); (with_reducible repeat (first | refine blk_drewN ?_ _ | refine blk_drew ?_ | refine blk_alloc ?_ _)); exact BKCj.out⟩, ⟨by (try simp only [hlC9003_59]); (with_reducible repeat (first | refine blk_drewN ?_ _ | refine blk_drew ?_ | refine blk_alloc ?_ _)); exact BKCU.out⟩, ⟨by exact belS⟩⟩
            ·replace c125 := Bool.eq_false_iff.mpr c125
             subst c125
             have H1 : (laws_FnExactOtherRace.j2 kj59 tCy true tC9 tCa tCb tCz tCf tCg tCh) = some r := by rw [if_neg (show ¬ (false = true) by decide)] at H; exact H
             clear H
             have H := H1
             clear H1
             have H' := Aside0.mk H
             clear H
             have hnb136 := NBCU_BD.out
             have hnc136 := NBBD_CU.out
             have hnb137 := NBCU_BY.out
             have hnc137 := NBBY_CU.out
             have hnb138 := NBCU_C8.out
             have hnc138 := NBC8_CU.out
             have hnb139 := NBCU_Cj.out
             have hnc139 := NBCj_CU.out
             obtain ⟨hcz140_0, hcz140_1, hcz140_2, hcz140_3, hcz140_4, hcz140_5, hcz140_6, hfz140_0, hfz140_1, hfz140_2, hfz140_3, hfz140_4, hfz140_5, hfz140_6⟩ := blk7 BKCU.out
             have hnb141 := NBBY_BD.out
             have hnc141 := NBBD_BY.out
             have hnb142 := NBBY_C8.out
             have hnc142 := NBC8_BY.out
             have hnb143 := NBBY_Cj.out
             have hnc143 := NBCj_BY.out
             obtain ⟨hcz144_0, hcz144_1, hcz144_2, hcz144_3, hcz144_4, hcz144_5, hcz144_6, hfz144_0, hfz144_1, hfz144_2, hfz144_3, hfz144_4, hfz144_5, hfz144_6⟩ := blk7 BKBY.out
             go_wp2_with (first | ((with_reducible refine gate_callee (f := 53) rfl ?_); refine goesL_ (some 81) rfl rfl Try.func53 (by kernel_rfl) rfl #[.agg #[.int .i64 tCK, .int .i64 tCL, .int .i64 tCM, .slice Ao123 tCN.length co123, .int .i64 tCQ, .int .i64 tCR, .int .i64 tCS], .agg #[.int .i64 tBO, .int .i64 tBP, .int .i64 tBQ, .slice Ao22 tBR.length co22, .int .i64 tBU, .int .i64 tBV, .int .i64 tBW]] rfl argS ?_; (with_reducible refine (laws_eqRace.calls kj59 tCK tCL tCM _ _ tCN tCQ tCR tCS tBO tBP tBQ _ _ tBR tBU tBV tBW false _ ?side1 ?side2 ?side3 ?side4 A124.out).mono ?_); (case side1 => refine (Kd.R_reads' (e := 27) (base := w.heap.size) (ok := fun k_ => ((((True ∧ some k_ ≠ (.slice Ao22 tBR.length co22 : Value).ownBlock) ∧ some k_ ≠ (.slice Ao29 tCw.length co29 : Value).ownBlock) ∧ some k_ ≠ (.slice Ao36 tCc.length co36 : Value).ownBlock) ∧ some k_ ≠ (.slice Ao115 tCE.length co115 : Value).ownBlock)) (n := tCN.length) (c := co123) ?_).2.2; exact (by (with_reducible repeat (first | apply Kd.R_alloc | apply Kd.R_drewN | apply Kd.R_drew)); exact (Kd.R_mono (Kd.R_far (p := ⟨gbCU, 6, none⟩) (Kd.R_far (p := ⟨gbCU, 5, none⟩) (Kd.R_far (p := ⟨gbCU, 4, none⟩) (Kd.R_far (p := ⟨gbCU, 3, none⟩) (Kd.R_far (p := ⟨gbCU, 2, none⟩) (Kd.R_far (p := ⟨gbCU, 1, none⟩) (Kd.R_far (p := ⟨gbCU, 0, none⟩) (Kd.R_types HOCP.out BKCU.out (by decide)) (fun _ hk => hk.2) (.int .i64 tCK)) (fun _ hk => hk.2) (.int .i64 tCL)) (fun _ hk => hk.2) (.int .i64 tCM)) (fun _ hk => hk.2) (.slice Ao123 tCN.length co123)) (fun _ hk => hk.2) (.int .i64 tCQ)) (fun _ hk => hk.2) (.int .i64 tCR)) (fun _ hk => hk.2) (.int .i64 tCS)) (fun _ h_ => h_.1)))); (case side2 => exact (Kd.R_reads' HOCP.out).2.1); (case side3 => refine (Kd.R_reads' (e := 27) (base := w.heap.size) (ok := fun k_ => (((some k_ ≠ (.slice Ao29 tCw.length co29 : Value).ownBlock ∧ some k_ ≠ (.slice Ao36 tCc.length co36 : Value).ownBlock) ∧ some k_ ≠ (.slice Ao115 tCE.length co115 : Value).ownBlock) ∧ some k_ ≠ (.slice Ao123 tCN.length co123 : Value).ownBlock)) (n := tBR.length) (c := co22) ?_).2.2; exact (by (with_reducible repeat (first | apply Kd.R_alloc | apply Kd.R_drewN | apply Kd.R_drew)); exact (Kd.R_mono (Kd.R_far (p := ⟨gbCU, 6, none⟩) (Kd.R_far (p := ⟨gbCU, 5, none⟩) (Kd.R_far (p := ⟨gbCU, 4, none⟩) (Kd.R_far (p := ⟨gbCU, 3, none⟩) (Kd.R_far (p := ⟨gbCU, 2, none⟩) (Kd.R_far (p := ⟨gbCU, 1, none⟩) (Kd.R_far (p := ⟨gbCU, 0, none⟩) (Kd.R_types HO_BZ003.out BKCU.out (by decide)) (fun _ hk => hk.2) (.int .i64 tCK)) (fun _ hk => hk.2) (.int .i64 tCL)) (fun _ hk => hk.2) (.int .i64 tCM)) (fun _ hk => hk.2) (.slice Ao123 tCN.length co123)) (fun _ hk => hk.2) (.int .i64 tCQ)) (fun _ hk => hk.2) (.int .i64 tCR)) (fun _ hk => hk.2) (.int .i64 tCS)) (fun _ h_ => h_.1)))); (case side4 => exact (Kd.R_reads' HO_BZ003.out).2.1); rintro e w145 ⟨rfl, hb⟩; refine ⟨_, rfl, ?_⟩; have n0_ := Aside0.mk (Kd.R_below (by (with_reducible repeat (first | apply Kd.R_alloc | apply Kd.R_drewN | apply Kd.R_drew)); exact (Kd.R_mono (Kd.R_far (p := ⟨gbCU, 6, none⟩) (Kd.R_far (p := ⟨gbCU, 5, none⟩) (Kd.R_far (p := ⟨gbCU, 4, none⟩) (Kd.R_far (p := ⟨gbCU, 3, none⟩) (Kd.R_far (p := ⟨gbCU, 2, none⟩) (Kd.R_far (p := ⟨gbCU, 1, none⟩) (Kd.R_far (p := ⟨gbCU, 0, none⟩) (Kd.R_types HO_BZ003.out BKCU.out (by decide)) (fun _ hk => hk.2) (.int .i64 tCK)) (fun _ hk => hk.2) (.int .i64 tCL)) (fun _ hk => hk.2) (.int .i64 tCM)) (fun _ hk => hk.2) (.slice Ao123 tCN.length co123)) (fun _ hk => hk.2) (.int .i64 tCQ)) (fun _ hk => hk.2) (.int .i64 tCR)) (fun _ hk => hk.2) (.int .i64 tCS)) (fun _ h_ => h_.1))) hb); have n1_ := Aside0.mk (Kd.R_below (by (with_reducible repeat (first | apply Kd.R_alloc | apply Kd.R_drewN | apply Kd.R_drew)); exact (Kd.R_mono (Kd.R_far (p := ⟨gbCU, 6, none⟩) (Kd.R_far (p := ⟨gbCU, 5, none⟩) (Kd.R_far (p := ⟨gbCU, 4, none⟩) (Kd.R_far (p := ⟨gbCU, 3, none⟩) (Kd.R_far (p := ⟨gbCU, 2, none⟩) (Kd.R_far (p := ⟨gbCU, 1, none⟩) (Kd.R_far (p := ⟨gbCU, 0, none⟩) (Kd.R_types HO_C9003.out BKCU.out (by decide)) (fun _ hk => hk.2) (.int .i64 tCK)) (fun _ hk => hk.2) (.int .i64 tCL)) (fun _ hk => hk.2) (.int .i64 tCM)) (fun _ hk => hk.2) (.slice Ao123 tCN.length co123)) (fun _ hk => hk.2) (.int .i64 tCQ)) (fun _ hk => hk.2) (.int .i64 tCR)) (fun _ hk => hk.2) (.int .i64 tCS)) (fun _ h_ => h_.1))) hb); have n2_ := Aside0.mk (Kd.R_below (by (with_reducible repeat (first | apply Kd.R_alloc | apply Kd.R_drewN | apply Kd.R_drew)); exact (Kd.R_mono (Kd.R_far (p := ⟨gbCU, 6, none⟩) (Kd.R_far (p := ⟨gbCU, 5, none⟩) (Kd.R_far (p := ⟨gbCU, 4, none⟩) (Kd.R_far (p := ⟨gbCU, 3, none⟩) (Kd.R_far (p := ⟨gbCU, 2, none⟩) (Kd.R_far (p := ⟨gbCU, 1, none⟩) (Kd.R_far (p := ⟨gbCU, 0, none⟩) (Kd.R_types HO_Ck003.out BKCU.out (by decide)) (fun _ hk => hk.2) (.int .i64 tCK)) (fun _ hk => hk.2) (.int .i64 tCL)) (fun _ hk => hk.2) (.int .i64 tCM)) (fun _ hk => hk.2) (.slice Ao123 tCN.length co123)) (fun _ hk => hk.2) (.int .i64 tCQ)) (fun _ hk => hk.2) (.int .i64 tCR)) (fun _ hk => hk.2) (.int .i64 tCS)) (fun _ h_ => h_.1))) hb); have n3_ := Aside0.mk (Kd.R_below (by (with_reducible repeat (first | apply Kd.R_alloc | apply Kd.R_drewN | apply Kd.R_drew)); exact (Kd.R_mono (Kd.R_far (p := ⟨gbCU, 6, none⟩) (Kd.R_far (p := ⟨gbCU, 5, none⟩) (Kd.R_far (p := ⟨gbCU, 4, none⟩) (Kd.R_far (p := ⟨gbCU, 3, none⟩) (Kd.R_far (p := ⟨gbCU, 2, none⟩) (Kd.R_far (p := ⟨gbCU, 1, none⟩) (Kd.R_far (p := ⟨gbCU, 0, none⟩) (Kd.R_types HOCG.out BKCU.out (by decide)) (fun _ hk => hk.2) (.int .i64 tCK)) (fun _ hk => hk.2) (.int .i64 tCL)) (fun _ hk => hk.2) (.int .i64 tCM)) (fun _ hk => hk.2) (.slice Ao123 tCN.length co123)) (fun _ hk => hk.2) (.int .i64 tCQ)) (fun _ hk => hk.2) (.int .i64 tCR)) (fun _ hk => hk.2) (.int .i64 tCS)) (fun _ h_ => h_.1))) hb); have n4_ := Aside0.mk (Kd.R_below (by (with_reducible repeat (first | apply Kd.R_alloc | apply Kd.R_drewN | apply Kd.R_drew)); exact (Kd.R_mono (Kd.R_far (p := ⟨gbCU, 6, none⟩) (Kd.R_far (p := ⟨gbCU, 5, none⟩) (Kd.R_far (p := ⟨gbCU, 4, none⟩) (Kd.R_far (p := ⟨gbCU, 3, none⟩) (Kd.R_far (p := ⟨gbCU, 2, none⟩) (Kd.R_far (p := ⟨gbCU, 1, none⟩) (Kd.R_far (p := ⟨gbCU, 0, none⟩) (Kd.R_types HOCP.out BKCU.out (by decide)) (fun _ hk => hk.2) (.int .i64 tCK)) (fun _ hk => hk.2) (.int .i64 tCL)) (fun _ hk => hk.2) (.int .i64 tCM)) (fun _ hk => hk.2) (.slice Ao123 tCN.length co123)) (fun _ hk => hk.2) (.int .i64 tCQ)) (fun _ hk => hk.2) (.int .i64 tCR)) (fun _ hk => hk.2) (.int .i64 tCS)) (fun _ h_ => h_.1))) hb); have n5_ := Aside0.mk (blk_below (g := gbBD) (o := .cells #[.int .i64 a0_0, .int .i64 a0_1, .int .i64 a0_2, .slice A0_3 l0_3.length c0_3, .int .i64 a0_4, .int .i64 a0_5, .int .i64 a0_6] 43 (0, 0)) (by (with_reducible repeat (first | refine blk_drewN ?_ _ | refine blk_drew ?_ | refine blk_alloc ?_ _)); refine blk_far ?_ NBBD_CU.out _; (with_reducible repeat (first | refine blk_drewN ?_ _ | refine blk_drew ?_ | refine blk_alloc ?_ _)); refine blk_far ?_ NBBD_CU.out _; (with_reducible repeat (first | refine blk_drewN ?_ _ | refine blk_drew ?_ | refine blk_alloc ?_ _)); refine blk_far ?_ NBBD_CU.out _; (with_reducible repeat (first | refine blk_drewN ?_ _ | refine blk_drew ?_ | refine blk_alloc ?_ _)); refine blk_far ?_ NBBD_CU.out _; (with_reducible repeat (first | refine blk_drewN ?_ _ | refine blk_drew ?_ | refine blk_alloc ?_ _)); refine blk_far ?_ NBBD_CU.out _; (with_reducible repeat (first | refine blk_drewN ?_ _ | refine blk_drew ?_ | refine blk_alloc ?_ _)); refine blk_far ?_ NBBD_CU.out _; (with_reducible repeat (first | refine blk_drewN ?_ _ | refine blk_drew ?_ | refine blk_alloc ?_ _)); refine blk_far ?_ NBBD_CU.out _; (with_reducible repeat (first | refine blk_drewN ?_ _ | refine blk_drew ?_ | refine blk_alloc ?_ _)); exact BKBD.out) hb); have n6_ := Aside0.mk (blk_below (g := gbBY) (o := .cells #[.int .i64 tBO, .int .i64 tBP, .int .i64 tBQ, .slice Ao22 tBR.length co22, .int .i64 tBU, .int .i64 tBV, .int .i64 tBW] 47 (0, 0)) (by (with_reducible repeat (first | refine blk_drewN ?_ _ | refine blk_drew ?_ | refine blk_alloc ?_ _)); refine blk_far ?_ NBBY_CU.out _; (with_reducible repeat (first | refine blk_drewN ?_ _ | refine blk_drew ?_ | refine blk_alloc ?_ _)); refine blk_far ?_ NBBY_CU.out _; (with_reducible repeat (first | refine blk_drewN ?_ _ | refine blk_drew ?_ | refine blk_alloc ?_ _)); refine blk_far ?_ NBBY_CU.out _; (with_reducible repeat (first | refine blk_drewN ?_ _ | refine blk_drew ?_ | refine blk_alloc ?_ _)); refine blk_far ?_ NBBY_CU.out _; (with_reducible repeat (first | refine blk_drewN ?_ _ | refine blk_drew ?_ | refine blk_alloc ?_ _)); refine blk_far ?_ NBBY_CU.out _; (with_reducible repeat (first | refine blk_drewN ?_ _ | refine blk_drew ?_ | refine blk_alloc ?_ _)); refine blk_far ?_ NBBY_CU.out _; (with_reducible repeat (first | refine blk_drewN ?_ _ | refine blk_drew ?_ | refine blk_alloc ?_ _)); refine blk_far ?_ NBBY_CU.out _; (with_reducible repeat (first | refine blk_drewN ?_ _ | refine blk_drew ?_ | refine blk_alloc ?_ _)); exact BKBY.out) hb); have n7_ := Aside0.mk (blk_below (g := gbC8) (o := .cells #[.int .i64 tBZ, .int .i64 tC0, .int .i64 tC1, .slice Ao29 tCw.length co29, .int .i64 tC5, .int .i64 tC6, .int .i64 tC7] 47 (0, 0)) (by (with_reducible repeat (first | refine blk_drewN ?_ _ | refine blk_drew ?_ | refine blk_alloc ?_ _)); refine blk_far ?_ NBC8_CU.out _; (with_reducible repeat (first | refine blk_drewN ?_ _ | refine blk_drew ?_ | refine blk_alloc ?_ _)); refine blk_far ?_ NBC8_CU.out _; (with_reducible repeat (first | refine blk_drewN ?_ _ | refine blk_drew ?_ | refine blk_alloc ?_ _)); refine blk_far ?_ NBC8_CU.out _; (with_reducible repeat (first | refine blk_drewN ?_ _ | refine blk_drew ?_ | refine blk_alloc ?_ _)); refine blk_far ?_ NBC8_CU.out _; (with_reducible repeat (first | refine blk_drewN ?_ _ | refine blk_drew ?_ | refine blk_alloc ?_ _)); refine blk_far ?_ NBC8_CU.out _; (with_reducible repeat (first | refine blk_drewN ?_ _ | refine blk_drew ?_ | refine blk_alloc ?_ _)); refine blk_far ?_ NBC8_CU.out _; (with_reducible repeat (first | refine blk_drewN ?_ _ | refine blk_drew ?_ | refine blk_alloc ?_ _)); refine blk_far ?_ NBC8_CU.out _; (with_reducible repeat (first | refine blk_drewN ?_ _ | refine blk_drew ?_ | refine blk_alloc ?_ _)); exact BKC8.out) hb); have n8_ := Aside0.mk (blk_below (g := gbCj) (o := .cells #[.int .i64 tC9, .int .i64 tCa, .int .i64 tCb, .slice Ao36 tCc.length co36, .int .i64 tCf, .int .i64 tCg, .int .i64 tCh] 47 (0, 0)) (by (with_reducible repeat (first | refine blk_drewN ?_ _ | refine blk_drew ?_ | refine blk_alloc ?_ _)); refine blk_far ?_ NBCj_CU.out _; (with_reducible repeat (first | refine blk_drewN ?_ _ | refine blk_drew ?_ | refine blk_alloc ?_ _)); refine blk_far ?_ NBCj_CU.out _; (with_reducible repeat (first | refine blk_drewN ?_ _ | refine blk_drew ?_ | refine blk_alloc ?_ _)); refine blk_far ?_ NBCj_CU.out _; (with_reducible repeat (first | refine blk_drewN ?_ _ | refine blk_drew ?_ | refine blk_alloc ?_ _)); refine blk_far ?_ NBCj_CU.out _; (with_reducible repeat (first | refine blk_drewN ?_ _ | refine blk_drew ?_ | refine blk_alloc ?_ _)); refine blk_far ?_ NBCj_CU.out _; (with_reducible repeat (first | refine blk_drewN ?_ _ | refine blk_drew ?_ | refine blk_alloc ?_ _)); refine blk_far ?_ NBCj_CU.out _; (with_reducible repeat (first | refine blk_drewN ?_ _ | refine blk_drew ?_ | refine blk_alloc ?_ _)); refine blk_far ?_ NBCj_CU.out _; (with_reducible repeat (first | refine blk_drewN ?_ _ | refine blk_drew ?_ | refine blk_alloc ?_ _)); exact BKCj.out) hb); have n9_ := Aside0.mk (blk_below (g := gbCU) (o := .cells #[.int .i64 tCK, .int .i64 tCL, .int .i64 tCM, .slice Ao123 tCN.length co123, .int .i64 tCQ, .int .i64 tCR, .int .i64 tCS] 47 (0, 0)) (by (with_reducible repeat (first | refine blk_drewN ?_ _ | refine blk_drew ?_ | refine blk_alloc ?_ _)); refine blk_put (cs := #[.int .i64 tCK, .int .i64 tCL, .int .i64 tCM, .slice Ao123 tCN.length co123, .int .i64 tCQ, .int .i64 tCR, .int .i64 0]) ?_ 6 _ rfl; (with_reducible repeat (first | refine blk_drewN ?_ _ | refine blk_drew ?_ | refine blk_alloc ?_ _)); refine blk_put (cs := #[.int .i64 tCK, .int .i64 tCL, .int .i64 tCM, .slice Ao123 tCN.length co123, .int .i64 tCQ, .int .i64 0, .int .i64 0]) ?_ 5 _ rfl; (with_reducible repeat (first | refine blk_drewN ?_ _ | refine blk_drew ?_ | refine blk_alloc ?_ _)); refine blk_put (cs := #[.int .i64 tCK, .int .i64 tCL, .int .i64 tCM, .slice Ao123 tCN.length co123, .int .i64 0, .int .i64 0, .int .i64 0]) ?_ 4 _ rfl; (with_reducible repeat (first | refine blk_drewN ?_ _ | refine blk_drew ?_ | refine blk_alloc ?_ _)); refine blk_put (cs := #[.int .i64 tCK, .int .i64 tCL, .int .i64 tCM, .slice none 0 0, .int .i64 0, .int .i64 0, .int .i64 0]) ?_ 3 _ rfl; (with_reducible repeat (first | refine blk_drewN ?_ _ | refine blk_drew ?_ | refine blk_alloc ?_ _)); refine blk_put (cs := #[.int .i64 tCK, .int .i64 tCL, .int .i64 0, .slice none 0 0, .int .i64 0, .int .i64 0, .int .i64 0]) ?_ 2 _ rfl; (with_reducible repeat (first | refine blk_drewN ?_ _ | refine blk_drew ?_ | refine blk_alloc ?_ _)); refine blk_put (cs := #[.int .i64 tCK, .int .i64 0, .int .i64 0, .slice none 0 0, .int .i64 0, .int .i64 0, .int .i64 0]) ?_ 1 _ rfl; (with_reducible repeat (first | refine blk_drewN ?_ _ | refine blk_drew ?_ | refine blk_alloc ?_ _)); refine blk_put (cs := #[.int .i64 0, .int .i64 0, .int .i64 0, .slice none 0 0, .int .i64 0, .int .i64 0, .int .i64 0]) ?_ 0 _ rfl; (with_reducible repeat (first | refine blk_drewN ?_ _ | refine blk_drew ?_ | refine blk_alloc ?_ _)); exact BKCU.out) hb); have n10_ := Aside0.mk (below_step belS hb); clear HO_BZ003; clear HO_C9003; clear HO_Ck003; clear HOCG; clear HOCP; clear BKBD; clear BKBY; clear BKC8; clear BKCj; clear BKCU; clear HB; have HO_BZ003 := n0_; have HO_C9003 := n1_; have HO_Ck003 := n2_; have HOCG := n3_; have HOCP := n4_; have BKBD := n5_; have BKBY := n6_; have BKC8 := n7_; have BKCj := n8_; have BKCU := n9_; have HB := n10_; clear n0_ n1_ n2_ n3_ n4_ n5_ n6_ n7_ n8_ n9_ n10_; (try clear hb); (try clear hb2); (try clear hk); (try clear hi)))
             go_meet
             case rel => exact ⟨_, (true), (by first | rfl | (simp; done) | (simp [*]; done)), H', ⟨by have := HJ10.out; have := HJ59.out; first | omega | exact Nat.le_refl _⟩, ⟨by (try simp only [hlC9003_59]); (with_reducible repeat (first | apply Kd.R_alloc | apply Kd.R_drewN | apply Kd.R_drew)); exact Kd.R_mono HO_BZ003.out (fun _ hk => ⟨hk.1.1.1, ⟨hk.1.1.2, hk.2⟩⟩)⟩, ⟨by (try simp only [hlC9003_59]); (with_reducible repeat (first | apply Kd.R_alloc | apply Kd.R_drewN | apply Kd.R_drew)); exact Kd.R_mono HO_C9003.out (fun _ hk => ⟨hk.1.1.1, ⟨hk.1.1.2, hk.2⟩⟩)⟩, ⟨by (try simp only [hlC9003_59]); (with_reducible repeat (first | apply Kd.R_alloc | apply Kd.R_drewN | apply Kd.R_drew)); exact Kd.R_mono HO_Ck003.out (fun _ hk => ⟨hk.1.1.1, ⟨hk.1.1.2, hk.2⟩⟩)⟩, ⟨by (try simp only [hlC9003_59]); (with_reducible repeat (first | apply Kd.R_alloc | apply Kd.R_drewN | apply Kd.R_drew)); exact Kd.R_mono HOCP.out (fun _ hk => ⟨hk.1.1.1.2, ⟨hk.1.1.2, hk.1.2⟩⟩)⟩, ⟨by (try simp only [hlC9003_59]); (with_reducible repeat (first | refine blk_drewN ?_ _ | refine blk_drew ?_ | refine blk_alloc ?_ _)); exact BKBD.out⟩, ⟨by (try simp only [hlC9003_59]); (with_reducible repeat (first | refine blk_drewN ?_ _ | refine blk_drew ?_ | refine blk_alloc ?_ _)); exact BKBY.out⟩, ⟨by (try simp only [hlC9003_59]); (with_reducible repeat (first | refine blk_drewN ?_ _ | refine blk_drew ?_ | refine blk_alloc ?_ _)); exact BKC8.out⟩, ⟨by (try simp only [hlC9003_59]); (with_reducible repeat (first | refine blk_drewN ?_ _ | refine blk_drew ?_ | refine blk_alloc ?_ _)); exact BKCj.out⟩, ⟨by (try simp only [hlC9003_59]); (with_reducible repeat (first | refine blk_drewN ?_ _ | refine blk_drew ?_ | refine blk_alloc ?_ _)); exact BKCU.out⟩, ⟨by exact belS⟩⟩
           case rest =>
            clear HC103
            try clear c1
            try clear c2
            try clear p2
            try clear c3
            try clear c3b0
            try clear c4
            try clear c5
            try clear c6
            try clear c7
            try clear c8
            try clear c9
            try clear c10
            try clear c11
            try clear c12
            try clear c13
            try clear c14
            try clear c20
            try clear c26
            try clear c27
            try clear c32
            try clear c33
            try clear c34
            try clear c38
            try clear c39
            try clear c40
            try clear c41
            try clear c43
            try clear c44
            try clear c47
            try clear c48
            try clear c49
            try clear c51
            try clear c52
            try clear c53
            try clear c55
            try clear c58
            try clear c65
            try clear c66
            try clear c67
            try clear c70
            try clear c70b0
            try clear c72
            try clear c73
            try clear c74
            try clear c75
            try clear c76
            try clear c77
            try clear c78
            try clear c81
            try clear c82
            try clear c83
            try clear c85
            try clear c86
            try clear c89
            try clear c92
            try clear c92b0
            try clear c93
            try clear c94
            try clear c95
            try clear c100
            try clear c100b0
            try clear c100b1
            try clear c104
            try clear c105
            try clear c106
            try clear c111
            try clear c112
            try clear c118
            try clear c119
            try clear c120
            try clear c121
            try clear c125
            try clear c126
            try clear c127
            try clear c128
            try clear c129
            try clear c131
            try clear c132
            try clear c133
            try clear c136
            try clear c137
            try clear c138
            try clear c139
            try clear c141
            try clear c142
            try clear c143
            try clear hcz107_0 hcz107_1 hcz107_2 hcz107_3 hcz107_4 hcz107_5 hcz107_6
            try clear hcz109_0 hcz109_1 hcz109_2 hcz109_3 hcz109_4 hcz109_5 hcz109_6
            try clear hcz113_0 hcz113_1 hcz113_2 hcz113_3 hcz113_4 hcz113_5 hcz113_6
            try clear hcz122_0 hcz122_1 hcz122_2 hcz122_3 hcz122_4 hcz122_5 hcz122_6
            try clear hcz130_0 hcz130_1 hcz130_2 hcz130_3 hcz130_4 hcz130_5 hcz130_6
            try clear hcz134_0 hcz134_1 hcz134_2 hcz134_3 hcz134_4 hcz134_5 hcz134_6
            try clear hcz13_0 hcz13_1 hcz13_2 hcz13_3 hcz13_4 hcz13_5 hcz13_6
            try clear hcz140_0 hcz140_1 hcz140_2 hcz140_3 hcz140_4 hcz140_5 hcz140_6
            try clear hcz144_0 hcz144_1 hcz144_2 hcz144_3 hcz144_4 hcz144_5 hcz144_6
            try clear hcz15_0 hcz15_1 hcz15_2 hcz15_3 hcz15_4 hcz15_5 hcz15_6
            try clear hcz21_0 hcz21_1 hcz21_2 hcz21_3 hcz21_4 hcz21_5 hcz21_6
            try clear hcz23_0 hcz23_1 hcz23_2 hcz23_3 hcz23_4 hcz23_5 hcz23_6
            try clear hcz28_0 hcz28_1 hcz28_2 hcz28_3 hcz28_4 hcz28_5 hcz28_6
            try clear hcz35_0 hcz35_1 hcz35_2 hcz35_3 hcz35_4 hcz35_5 hcz35_6
            try clear hcz42_0 hcz42_1 hcz42_2 hcz42_3 hcz42_4 hcz42_5 hcz42_6
            try clear hcz45_0 hcz45_1 hcz45_2 hcz45_3 hcz45_4 hcz45_5 hcz45_6
            try clear hcz50_0 hcz50_1 hcz50_2 hcz50_3 hcz50_4 hcz50_5 hcz50_6
            try clear hcz53_0 hcz53_1 hcz53_2 hcz53_3 hcz53_4 hcz53_5 hcz53_6
            try clear hcz5_0 hcz5_1 hcz5_2 hcz5_3 hcz5_4 hcz5_5 hcz5_6
            try clear hcz68_0 hcz68_1 hcz68_2 hcz68_3 hcz68_4 hcz68_5 hcz68_6
            try clear hcz76_0 hcz76_1 hcz76_2 hcz76_3 hcz76_4 hcz76_5 hcz76_6
            try clear hcz79_0 hcz79_1 hcz79_2 hcz79_3 hcz79_4 hcz79_5 hcz79_6
            try clear hcz84_0 hcz84_1 hcz84_2 hcz84_3 hcz84_4 hcz84_5 hcz84_6
            try clear hcz87_0 hcz87_1 hcz87_2 hcz87_3 hcz87_4 hcz87_5 hcz87_6
            try clear hcz96_0 hcz96_1 hcz96_2 hcz96_3 hcz96_4 hcz96_5 hcz96_6
            try clear hcz98_0 hcz98_1 hcz98_2 hcz98_3 hcz98_4 hcz98_5 hcz98_6
            try clear hfz107_0 hfz107_1 hfz107_2 hfz107_3 hfz107_4 hfz107_5 hfz107_6
            try clear hfz109_0 hfz109_1 hfz109_2 hfz109_3 hfz109_4 hfz109_5 hfz109_6
            try clear hfz113_0 hfz113_1 hfz113_2 hfz113_3 hfz113_4 hfz113_5 hfz113_6
            try clear hfz122_0 hfz122_1 hfz122_2 hfz122_3 hfz122_4 hfz122_5 hfz122_6
            try clear hfz130_0 hfz130_1 hfz130_2 hfz130_3 hfz130_4 hfz130_5 hfz130_6
            try clear hfz134_0 hfz134_1 hfz134_2 hfz134_3 hfz134_4 hfz134_5 hfz134_6
            try clear hfz13_0 hfz13_1 hfz13_2 hfz13_3 hfz13_4 hfz13_5 hfz13_6
            try clear hfz140_0 hfz140_1 hfz140_2 hfz140_3 hfz140_4 hfz140_5 hfz140_6
            try clear hfz144_0 hfz144_1 hfz144_2 hfz144_3 hfz144_4 hfz144_5 hfz144_6
            try clear hfz15_0 hfz15_1 hfz15_2 hfz15_3 hfz15_4 hfz15_5 hfz15_6
            try clear hfz21_0 hfz21_1 hfz21_2 hfz21_3 hfz21_4 hfz21_5 hfz21_6
            try clear hfz23_0 hfz23_1 hfz23_2 hfz23_3 hfz23_4 hfz23_5 hfz23_6
            try clear hfz28_0 hfz28_1 hfz28_2 hfz28_3 hfz28_4 hfz28_5 hfz28_6
            try clear hfz35_0 hfz35_1 hfz35_2 hfz35_3 hfz35_4 hfz35_5 hfz35_6
            try clear hfz42_0 hfz42_1 hfz42_2 hfz42_3 hfz42_4 hfz42_5 hfz42_6
            try clear hfz45_0 hfz45_1 hfz45_2 hfz45_3 hfz45_4 hfz45_5 hfz45_6
            try clear hfz50_0 hfz50_1 hfz50_2 hfz50_3 hfz50_4 hfz50_5 hfz50_6
            try clear hfz53_0 hfz53_1 hfz53_2 hfz53_3 hfz53_4 hfz53_5 hfz53_6
            try clear hfz5_0 hfz5_1 hfz5_2 hfz5_3 hfz5_4 hfz5_5 hfz5_6
            try clear hfz68_0 hfz68_1 hfz68_2 hfz68_3 hfz68_4 hfz68_5 hfz68_6
            try clear hfz76_0 hfz76_1 hfz76_2 hfz76_3 hfz76_4 hfz76_5 hfz76_6
            try clear hfz79_0 hfz79_1 hfz79_2 hfz79_3 hfz79_4 hfz79_5 hfz79_6
            try clear hfz84_0 hfz84_1 hfz84_2 hfz84_3 hfz84_4 hfz84_5 hfz84_6
            try clear hfz87_0 hfz87_1 hfz87_2 hfz87_3 hfz87_4 hfz87_5 hfz87_6
            try clear hfz96_0 hfz96_1 hfz96_2 hfz96_3 hfz96_4 hfz96_5 hfz96_6
            try clear hfz98_0 hfz98_1 hfz98_2 hfz98_3 hfz98_4 hfz98_5 hfz98_6
            try clear p2
            obtain ⟨kq, x87_102, rfl, HA, HJ102, HO_BZ003, HO_C9003, HO_Ck003, HO_CV003, BKBD, BKBY, BKC8, BKCj, BKCU, HB⟩ := hcut
            have hlCk003_102 := (Kd.R_reads' HO_Ck003.out).1
            rw [hlCk003_102] at HO_Ck003
            (try simp only [hlCk003_102])
            (try simp only [hlCk003_102] at BKBD)
            (try simp only [hlCk003_102] at BKBY)
            (try simp only [hlCk003_102] at BKC8)
            (try simp only [hlCk003_102] at BKCj)
            (try simp only [hlCk003_102] at BKCU)
            (try simp only [hlCk003_102] at HO_BZ003)
            (try simp only [hlCk003_102] at HO_C9003)
            (try simp only [hlCk003_102] at HO_CV003)
            cases kq with
            | zero => exact absurd HA.out (by simp [laws_FnExactOtherRace.j2])
            | succ kj102 =>
             have H := HA.out
             clear HA
             simp only [laws_FnExactOtherRace.j2] at H
             by_cases c146 : x87_102 = true
             ·subst c146
              have H1 : (some false) = some r := by rw [if_pos rfl] at H; exact H
              clear H
              have H := H1
              clear H1
              obtain rfl := Option.some.inj H
              go_wp2
              go_ret
              exact ⟨by first | rfl | (simp [errW_none, errW_some] <;> rfl) | (simp [*, errW_none, errW_some] <;> rfl), by exact belS⟩
             ·replace c146 := Bool.eq_false_iff.mpr c146
              subst c146
              have H1 : ((laws_heldRace.f kj102 tC9 tCa tCb tCz tCf tCg tCh 1).bind fun tCW => (if tCW < 0 then (some false) else (if tCW = tCy then (some true) else (some false)))) = some r := by rw [if_neg (show ¬ (false = true) by decide)] at H; exact H
              clear H
              have H := H1
              clear H1
              replace H := Option.bind_eq_some_iff.mp H
              obtain ⟨tCW, A1470, H⟩ := H
              replace H : (if tCW < 0 then (some false) else (if tCW = tCy then (some true) else (some false))) = some r := H
              have A147 := Aside0.mk A1470
              clear A1470
              by_cases c148 : tCW < 0
              ·rw [if_pos c148] at H
               have c148b0 : decide (tCW < 0) = true := decide_eq_true c148
               clear c148
               obtain rfl := Option.some.inj H
               have hnb149 := NBCj_BD.out
               have hnc149 := NBBD_Cj.out
               have hnb150 := NBCj_BY.out
               have hnc150 := NBBY_Cj.out
               have hnb151 := NBCj_C8.out
               have hnc151 := NBC8_Cj.out
               have hnb152 := NBCj_CU.out
               have hnc152 := NBCU_Cj.out
               obtain ⟨hcz153_0, hcz153_1, hcz153_2, hcz153_3, hcz153_4, hcz153_5, hcz153_6, hfz153_0, hfz153_1, hfz153_2, hfz153_3, hfz153_4, hfz153_5, hfz153_6⟩ := blk7 BKCj.out
               go_wp2_with (first | ((with_reducible refine gate_callee (f := 76) rfl ?_); refine goesL_ (some 90) rfl rfl Try.func76 (by kernel_rfl) rfl #[.agg #[.int .i64 tC9, .int .i64 tCa, .int .i64 tCb, .slice Ao36 tCz.length co36, .int .i64 tCf, .int .i64 tCg, .int .i64 tCh], .int .i64 1] rfl argS ?_; (with_reducible refine (laws_heldRace.calls kj102 tC9 tCa tCb _ _ tCz tCf tCg tCh 1 tCW _ ?side1 ?side2 A147.out).mono ?_); (case side1 => exact Kd.C_up (Kd.R_reads' HO_Ck003.out).2.2); (case side2 => exact (Kd.R_reads' HO_Ck003.out).2.1); rintro e w154 ⟨rfl, hb⟩; refine ⟨_, rfl, ?_⟩; have n0_ := Aside0.mk (Kd.R_below (Kd.R_up HO_BZ003.out) hb); have n1_ := Aside0.mk (Kd.R_below (Kd.R_up HO_C9003.out) hb); have n2_ := Aside0.mk (Kd.R_below (Kd.R_up HO_Ck003.out) hb); have n3_ := Aside0.mk (Kd.R_below (Kd.R_up HO_CV003.out) hb); have n4_ := Aside0.mk (blk_below (blk_up BKBD.out) hb); have n5_ := Aside0.mk (blk_below (blk_up BKBY.out) hb); have n6_ := Aside0.mk (blk_below (blk_up BKC8.out) hb); have n7_ := Aside0.mk (blk_below (blk_up BKCj.out) hb); have n8_ := Aside0.mk (blk_below (blk_up BKCU.out) hb); have n9_ := Aside0.mk (below_step belS hb); clear HO_BZ003; clear HO_C9003; clear HO_Ck003; clear HO_CV003; clear BKBD; clear BKBY; clear BKC8; clear BKCj; clear BKCU; clear HB; have HO_BZ003 := n0_; have HO_C9003 := n1_; have HO_Ck003 := n2_; have HO_CV003 := n3_; have BKBD := n4_; have BKBY := n5_; have BKC8 := n6_; have BKCj := n7_; have BKCU := n8_; have HB := n9_; clear n0_ n1_ n2_ n3_ n4_ n5_ n6_ n7_ n8_ n9_; (try clear hb); (try clear hb2); (try clear hk); (try clear hi)))
               go_ret
               exact ⟨by first | rfl | (simp [errW_none, errW_some] <;> rfl) | (simp [*, errW_none, errW_some] <;> rfl), by exact belS⟩
              ·rw [if_neg c148] at H
               have c148b0 : decide (tCW < 0) = false := decide_eq_false c148
               clear c148
               by_cases c155 : tCW = tCy
               ·rw [if_pos c155] at H
                have c155b0 : (tCW == tCy) = true := beq_iff_eq.mpr c155
                have c155b1 : (tCW != tCy) = false := bne_eq_false_iff_eq.mpr c155
                clear c155
                obtain rfl := Option.some.inj H
                have hnb156 := NBCj_BD.out
                have hnc156 := NBBD_Cj.out
                have hnb157 := NBCj_BY.out
                have hnc157 := NBBY_Cj.out
                have hnb158 := NBCj_C8.out
                have hnc158 := NBC8_Cj.out
                have hnb159 := NBCj_CU.out
                have hnc159 := NBCU_Cj.out
                obtain ⟨hcz160_0, hcz160_1, hcz160_2, hcz160_3, hcz160_4, hcz160_5, hcz160_6, hfz160_0, hfz160_1, hfz160_2, hfz160_3, hfz160_4, hfz160_5, hfz160_6⟩ := blk7 BKCj.out
                go_wp2_with (first | ((with_reducible refine gate_callee (f := 76) rfl ?_); refine goesL_ (some 90) rfl rfl Try.func76 (by kernel_rfl) rfl #[.agg #[.int .i64 tC9, .int .i64 tCa, .int .i64 tCb, .slice Ao36 tCz.length co36, .int .i64 tCf, .int .i64 tCg, .int .i64 tCh], .int .i64 1] rfl argS ?_; (with_reducible refine (laws_heldRace.calls kj102 tC9 tCa tCb _ _ tCz tCf tCg tCh 1 tCW _ ?side1 ?side2 A147.out).mono ?_); (case side1 => exact Kd.C_up (Kd.R_reads' HO_Ck003.out).2.2); (case side2 => exact (Kd.R_reads' HO_Ck003.out).2.1); rintro e w161 ⟨rfl, hb⟩; refine ⟨_, rfl, ?_⟩; have n0_ := Aside0.mk (Kd.R_below (Kd.R_up HO_BZ003.out) hb); have n1_ := Aside0.mk (Kd.R_below (Kd.R_up HO_C9003.out) hb); have n2_ := Aside0.mk (Kd.R_below (Kd.R_up HO_Ck003.out) hb); have n3_ := Aside0.mk (Kd.R_below (Kd.R_up HO_CV003.out) hb); have n4_ := Aside0.mk (blk_below (blk_up BKBD.out) hb); have n5_ := Aside0.mk (blk_below (blk_up BKBY.out) hb); have n6_ := Aside0.mk (blk_below (blk_up BKC8.out) hb); have n7_ := Aside0.mk (blk_below (blk_up BKCj.out) hb); have n8_ := Aside0.mk (blk_below (blk_up BKCU.out) hb); have n9_ := Aside0.mk (below_step belS hb); clear HO_BZ003; clear HO_C9003; clear HO_Ck003; clear HO_CV003; clear BKBD; clear BKBY; clear BKC8; clear BKCj; clear BKCU; clear HB; have HO_BZ003 := n0_; have HO_C9003 := n1_; have HO_Ck003 := n2_; have HO_CV003 := n3_; have BKBD := n4_; have BKBY := n5_; have BKC8 := n6_; have BKCj := n7_; have BKCU := n8_; have HB := n9_; clear n0_ n1_ n2_ n3_ n4_ n5_ n6_ n7_ n8_ n9_; (try clear hb); (try clear hb2); (try clear hk); (try clear hi)))
                go_ret
                exact ⟨by first | rfl | (simp [errW_none, errW_some] <;> rfl) | (simp [*, errW_none, errW_some] <;> rfl), by exact belS⟩
               ·rw [if_neg c155] at H
                have c155b0 : (tCW == tCy) = false := beq_eq_false_iff_ne.mpr c155
                have c155b1 : (tCW != tCy) = true := bne_iff_ne.mpr c155
                obtain rfl := Option.some.inj H
                have hnb162 := NBCj_BD.out
                have hnc162 := NBBD_Cj.out
                have hnb163 := NBCj_BY.out
                have hnc163 := NBBY_Cj.out
                have hnb164 := NBCj_C8.out
                have hnc164 := NBC8_Cj.out
                have hnb165 := NBCj_CU.out
                have hnc165 := NBCU_Cj.out
                obtain ⟨hcz166_0, hcz166_1, hcz166_2, hcz166_3, hcz166_4, hcz166_5, hcz166_6, hfz166_0, hfz166_1, hfz166_2, hfz166_3, hfz166_4, hfz166_5, hfz166_6⟩ := blk7 BKCj.out
                go_wp2_with (first | ((with_reducible refine gate_callee (f := 76) rfl ?_); refine goesL_ (some 90) rfl rfl Try.func76 (by kernel_rfl) rfl #[.agg #[.int .i64 tC9, .int .i64 tCa, .int .i64 tCb, .slice Ao36 tCz.length co36, .int .i64 tCf, .int .i64 tCg, .int .i64 tCh], .int .i64 1] rfl argS ?_; (with_reducible refine (laws_heldRace.calls kj102 tC9 tCa tCb _ _ tCz tCf tCg tCh 1 tCW _ ?side1 ?side2 A147.out).mono ?_); (case side1 => exact Kd.C_up (Kd.R_reads' HO_Ck003.out).2.2); (case side2 => exact (Kd.R_reads' HO_Ck003.out).2.1); rintro e w167 ⟨rfl, hb⟩; refine ⟨_, rfl, ?_⟩; have n0_ := Aside0.mk (Kd.R_below (Kd.R_up HO_BZ003.out) hb); have n1_ := Aside0.mk (Kd.R_below (Kd.R_up HO_C9003.out) hb); have n2_ := Aside0.mk (Kd.R_below (Kd.R_up HO_Ck003.out) hb); have n3_ := Aside0.mk (Kd.R_below (Kd.R_up HO_CV003.out) hb); have n4_ := Aside0.mk (blk_below (blk_up BKBD.out) hb); have n5_ := Aside0.mk (blk_below (blk_up BKBY.out) hb); have n6_ := Aside0.mk (blk_below (blk_up BKC8.out) hb); have n7_ := Aside0.mk (blk_below (blk_up BKCj.out) hb); have n8_ := Aside0.mk (blk_below (blk_up BKCU.out) hb); have n9_ := Aside0.mk (below_step belS hb); clear HO_BZ003; clear HO_C9003; clear HO_Ck003; clear HO_CV003; clear BKBD; clear BKBY; clear BKC8; clear BKCj; clear BKCU; clear HB; have HO_BZ003 := n0_; have HO_C9003 := n1_; have HO_Ck003 := n2_; have HO_CV003 := n3_; have BKBD := n4_; have BKBY := n5_; have BKC8 := n6_; have BKCj := n7_; have BKCU := n8_; have HB := n9_; clear n0_ n1_ n2_ n3_ n4_ n5_ n6_ n7_ n8_ n9_; (try clear hb); (try clear hb2); (try clear hk); (try clear hi)))
                go_ret
                exact ⟨by first | rfl | (simp [errW_none, errW_some] <;> rfl) | (simp [*, errW_none, errW_some] <;> rfl), by exact belS⟩
          ·rw [if_neg c100] at H
           have c100b0 : (tCA == tCy) = false := beq_eq_false_iff_ne.mpr c100
           have c100b1 : (tCA != tCy) = true := bne_iff_ne.mpr c100
           obtain rfl := Option.some.inj H
           have hnb168 := NBCj_BD.out
           have hnc168 := NBBD_Cj.out
           have hnb169 := NBCj_BY.out
           have hnc169 := NBBY_Cj.out
           have hnb170 := NBCj_C8.out
           have hnc170 := NBC8_Cj.out
           obtain ⟨hcz171_0, hcz171_1, hcz171_2, hcz171_3, hcz171_4, hcz171_5, hcz171_6, hfz171_0, hfz171_1, hfz171_2, hfz171_3, hfz171_4, hfz171_5, hfz171_6⟩ := blk7 BKCj.out
           go_wp2_with (first | ((with_reducible refine gate_callee (f := 75) rfl ?_); refine goesL_ (some 64) rfl rfl Try.func75 (by kernel_rfl) rfl #[.agg #[.int .i64 tC9, .int .i64 tCa, .int .i64 tCb, .slice Ao36 tCc.length co36, .int .i64 tCf, .int .i64 tCg, .int .i64 tCh], .int .i64 1] rfl argS ?_; (with_reducible refine (laws_markRace.calls kj59 tC9 tCa tCb (fun k_ => some k_ = (.slice Ao36 tCc.length co36 : Value).ownBlock) (.slice Ao36 tCc.length co36) tCc tCf tCg tCh 1 tCy tCz w _ ?side1 ?side2 A90.out).mono ?_); (case side1 => exact belS); (case side2 => exact Kd.R_tight rfl HO_Ck003.out); rintro e w172 ⟨rfl, hy0, hb, hkp⟩; refine ⟨_, rfl, ?_⟩; have n0_ := Aside0.mk (Kd.R_mono (ok' := fun k_ => some k_ ≠ (.slice Ao29 tCw.length co29 : Value).ownBlock ∧ some k_ ≠ (.slice Ao36 tCc.length co36 : Value).ownBlock) (Kd.R_keptB (HO_BZ003.out) hkp (fun k_ hk_ hs_ => (hk_.2) hs_)) (fun k_ hk_ => ⟨hk_.1.1, hk_.1.2⟩)); have n1_ := Aside0.mk (Kd.R_mono (ok' := fun k_ => some k_ ≠ (.slice Ao22 tBR.length co22 : Value).ownBlock ∧ some k_ ≠ (.slice Ao36 tCc.length co36 : Value).ownBlock) (Kd.R_keptB (HO_C9003.out) hkp (fun k_ hk_ hs_ => (hk_.2) hs_)) (fun k_ hk_ => ⟨hk_.1.1, hk_.1.2⟩)); have n2_ := Aside0.mk (Kd.R_reok rfl hy0 (fun k_ e_ => HO_Ck003.out.1 k_ e_)); have n3_ := Aside0.mk (blk_kept (blk_up BKBD.out) hkp (fun hs_ => (fun e_ => (Kd.R_ne HO_Ck003.out BKBD.out (by decide)) e_) hs_)); have n4_ := Aside0.mk (blk_kept (blk_up BKBY.out) hkp (fun hs_ => (fun e_ => (Kd.R_ne HO_Ck003.out BKBY.out (by decide)) e_) hs_)); have n5_ := Aside0.mk (blk_kept (blk_up BKC8.out) hkp (fun hs_ => (fun e_ => (Kd.R_ne HO_Ck003.out BKC8.out (by decide)) e_) hs_)); have n6_ := Aside0.mk (blk_kept (blk_up BKCj.out) hkp (fun hs_ => (fun e_ => (Kd.R_ne HO_Ck003.out BKCj.out (by decide)) e_) hs_)); have n7_ := Aside0.mk (hb); clear HO_BZ003; clear HO_C9003; clear HO_Ck003; clear BKBD; clear BKBY; clear BKC8; clear BKCj; clear HB; have HO_BZ003 := n0_; have HO_C9003 := n1_; have HO_Ck003 := n2_; have BKBD := n3_; have BKBY := n4_; have BKC8 := n5_; have BKCj := n6_; have HB := n7_; clear n0_ n1_ n2_ n3_ n4_ n5_ n6_ n7_; (try clear hb); (try clear hkp); (try clear hy0); obtain ⟨hcz173_0, hcz173_1, hcz173_2, hcz173_3, hcz173_4, hcz173_5, hcz173_6, hfz173_0, hfz173_1, hfz173_2, hfz173_3, hfz173_4, hfz173_5, hfz173_6⟩ := blk7 BKCj.out) | ((with_reducible refine gate_callee (f := 76) rfl ?_); refine goesL_ (some 67) rfl rfl Try.func76 (by kernel_rfl) rfl #[.agg #[.int .i64 tC9, .int .i64 tCa, .int .i64 tCb, .slice Ao36 tCz.length co36, .int .i64 tCf, .int .i64 tCg, .int .i64 tCh], .int .i64 1] rfl (by (try simp only [List.map_toArray, List.map_cons, List.map_nil]); first | done | (rw [show tCz.length = tCc.length from (Kd.R_reads' HO_Ck003.out).1.symm] <;> rfl) | rfl | (simp only [List.length_drop, List.length_take]; rfl)) ?_; (with_reducible refine (laws_heldRace.calls kj59 tC9 tCa tCb _ _ tCz tCf tCg tCh 1 tCA _ ?side1 ?side2 A91.out).mono ?_); (case side1 => exact Kd.C_up (Kd.R_reads' HO_Ck003.out).2.2); (case side2 => rw [show tCz.length = tCc.length from (Kd.R_reads' HO_Ck003.out).1.symm]; exact (Kd.R_reads' HO_Ck003.out).2.1); rintro e w174 ⟨rfl, hb⟩; refine ⟨_, rfl, ?_⟩; have n0_ := Aside0.mk (Kd.R_below (Kd.R_up HO_BZ003.out) hb); have n1_ := Aside0.mk (Kd.R_below (Kd.R_up HO_C9003.out) hb); have n2_ := Aside0.mk (Kd.R_below (Kd.R_up HO_Ck003.out) hb); have n3_ := Aside0.mk (blk_below (blk_up BKBD.out) hb); have n4_ := Aside0.mk (blk_below (blk_up BKBY.out) hb); have n5_ := Aside0.mk (blk_below (blk_up BKC8.out) hb); have n6_ := Aside0.mk (blk_below (blk_up BKCj.out) hb); have n7_ := Aside0.mk (below_step belS hb); clear HO_BZ003; clear HO_C9003; clear HO_Ck003; clear BKBD; clear BKBY; clear BKC8; clear BKCj; clear HB; have HO_BZ003 := n0_; have HO_C9003 := n1_; have HO_Ck003 := n2_; have BKBD := n3_; have BKBY := n4_; have BKC8 := n5_; have BKCj := n6_; have HB := n7_; clear n0_ n1_ n2_ n3_ n4_ n5_ n6_ n7_; (try clear hb); (try clear hb2); (try clear hk); (try clear hi)))
           go_ret
           exact ⟨by first | rfl | (simp [errW_none, errW_some] <;> rfl) | (simp [*, errW_none, errW_some] <;> rfl), by exact belS⟩
     ·replace c58 := Bool.eq_false_iff.mpr c58
      subst c58
      have H1 : (some false) = some r := by rw [if_neg (show ¬ (false = true) by decide)] at H; exact H
      clear H
      have H := H1
      clear H1
      obtain rfl := Option.some.inj H
      try go_wp2
      have n0_ := Aside0.mk (Kd.R_drew HO_BZ003.out)
      have n1_ := Aside0.mk (Kd.R_drew HO_C9003.out)
      have n2_ := Aside0.mk (Kd.R_drew HO_Ck003.out)
      have n3_ := Aside0.mk (blk_drew BKBD.out)
      have n4_ := Aside0.mk (blk_drew BKBY.out)
      have n5_ := Aside0.mk (blk_drew BKC8.out)
      have n6_ := Aside0.mk (blk_drew BKCj.out)
      have n7_ := Aside0.mk (below_drew1 HB.out)
      clear HO_BZ003
      clear HO_C9003
      clear HO_Ck003
      clear BKBD
      clear BKBY
      clear BKC8
      clear BKCj
      clear HB
      have HO_BZ003 := n0_
      have HO_C9003 := n1_
      have HO_Ck003 := n2_
      have BKBD := n3_
      have BKBY := n4_
      have BKC8 := n5_
      have BKCj := n6_
      have HB := n7_
      clear n0_ n1_ n2_ n3_ n4_ n5_ n6_ n7_
      refine start_ (n := 5) (S := fun w' => w'.cell? ⟨gbC8, 0, none⟩ = some (.int .i64 tBZ) ∧ w'.cell? ⟨gbC8, 1, none⟩ = some (.int .i64 tC0) ∧ w'.cell? ⟨gbC8, 2, none⟩ = some (.int .i64 tC1) ∧ w'.cell? ⟨gbC8, 3, none⟩ = some (.slice Ao29 tC2.length co29) ∧ w'.cell? ⟨gbC8, 4, none⟩ = some (.int .i64 tC5) ∧ w'.cell? ⟨gbC8, 5, none⟩ = some (.int .i64 tC6) ∧ w'.cell? ⟨gbC8, 6, none⟩ = some (.int .i64 tC7) ∧ w'.cell? ⟨gbBD, 0, none⟩ = some (.int .i64 a0_0) ∧ w'.cell? ⟨gbBD, 1, none⟩ = some (.int .i64 a0_1) ∧ w'.cell? ⟨gbBD, 2, none⟩ = some (.int .i64 a0_2) ∧ w'.cell? ⟨gbBD, 3, none⟩ = some (.slice A0_3 l0_3.length c0_3) ∧ w'.cell? ⟨gbBD, 4, none⟩ = some (.int .i64 a0_4) ∧ w'.cell? ⟨gbBD, 5, none⟩ = some (.int .i64 a0_5) ∧ w'.cell? ⟨gbBD, 6, none⟩ = some (.int .i64 a0_6)) (ds := []) #[false, false, false, false, false] (by kernel_rfl) rfl rfl ⟨(blk_cell BKC8.out 0).trans rfl, (blk_cell BKC8.out 1).trans rfl, (blk_cell BKC8.out 2).trans rfl, (blk_cell BKC8.out 3).trans rfl, (blk_cell BKC8.out 4).trans rfl, (blk_cell BKC8.out 5).trans rfl, (blk_cell BKC8.out 6).trans rfl, (blk_cell BKBD.out 0).trans rfl, (blk_cell BKBD.out 1).trans rfl, (blk_cell BKBD.out 2).trans rfl, (blk_cell BKBD.out 3).trans rfl, (blk_cell BKBD.out 4).trans rfl, (blk_cell BKBD.out 5).trans rfl, (blk_cell BKBD.out 6).trans rfl⟩ (fun hHeld => ?_)
      generalize wc.drew = w175 at HO_BZ003 HO_C9003 HO_Ck003 BKBD BKBY BKC8 BKCj HB hHeld ⊢
      refine take_ (i := 0) (N := some 41) (v := ?_) (a' := ?_) #[true, false, false, false, false] rfl rfl (by kernel_rfl) (fun _ _ _ h => h) (Or.inl ⟨by rfl, ?_⟩) hHeld ?_ ?_
      rotate_left
      ·rintro w' ⟨s0, s1, s2, s3, s4, s5, s6, s7, s8, s9, s10, s11, s12, s13⟩
       go_simp
       with_reducible rfl
      rotate_left
      ·simp only [Act.put, List.setIfInBounds_toArray, List.set_cons_zero, List.set_cons_succ, i64_w, i32_w]
       rfl
      refine take_ (i := 1) (N := some 42) (v := ?_) (a' := ?_) #[true, true, false, false, false] rfl rfl (by kernel_rfl) (fun _ _ _ h => h) (Or.inl ⟨by rfl, ?_⟩) hHeld ?_ ?_
      rotate_left
      ·rintro w' ⟨s0, s1, s2, s3, s4, s5, s6, s7, s8, s9, s10, s11, s12, s13⟩
       go_simp
       with_reducible rfl
      rotate_left
      ·simp only [Act.put, List.setIfInBounds_toArray, List.set_cons_zero, List.set_cons_succ, i64_w, i32_w]
       rfl
      refine one_ (i := 2) (N := some 43) #[true, true, true, false, false] rfl rfl (by kernel_rfl) (by decide) (fun K hK => ?_)
      refine goes_ Try.func51 (by kernel_rfl) rfl #[.agg #[.int .i64 a0_0, .int .i64 a0_1, .int .i64 a0_2, .slice A0_3 l0_3.length c0_3, .int .i64 a0_4, .int .i64 a0_5, .int .i64 a0_6]] (by rfl) rfl rfl argS ?_
      with_reducible refine (laws_toRace.calls kj10 a0_0 a0_1 a0_2 _ _ l0_3 a0_4 a0_5 a0_6 tCl tCm tCn tCo tCr tCs tCt _ ?side1 ?side2 A56.out).mono ?_
      (case side1 => exact Kd.C_up (Kd.C_below HR0_3.out HB.out))
      (case side2 => exact HC0_3.out)
      rintro e w176 ⟨vCp, rfl, ho0, hb⟩
      refine ⟨_, rfl, ?_⟩
      have n0_ := Aside0.mk (Kd.R_elder' (Kd.R_up HO_BZ003.out) (Kd.R_base ho0) hb)
      have n1_ := Aside0.mk (Kd.R_elder' (Kd.R_up HO_C9003.out) (Kd.R_base ho0) hb)
      have n2_ := Aside0.mk (Kd.R_elder' (Kd.R_up HO_Ck003.out) (Kd.R_base ho0) hb)
      have n3_ := Aside0.mk (Kd.R_lower (Kd.R_new' (Kd.R_new' (Kd.R_new' ho0 (Kd.R_lt (Kd.R_up HO_BZ003.out))) (Kd.R_lt (Kd.R_up HO_C9003.out))) (Kd.R_lt (Kd.R_up HO_Ck003.out))) (below_size belS))
      have n4_ := Aside0.mk (blk_below (blk_up BKBD.out) hb)
      have n5_ := Aside0.mk (blk_below (blk_up BKBY.out) hb)
      have n6_ := Aside0.mk (blk_below (blk_up BKC8.out) hb)
      have n7_ := Aside0.mk (blk_below (blk_up BKCj.out) hb)
      have n8_ := Aside0.mk (below_step belS hb)
      clear HO_BZ003
      clear HO_C9003
      clear HO_Ck003
      clear BKBD
      clear BKBY
      clear BKC8
      clear BKCj
      clear HB
      have HO_BZ003 := n0_
      have HO_C9003 := n1_
      have HO_Ck003 := n2_
      have HOCq := n3_
      have BKBD := n4_
      have BKBY := n5_
      have BKC8 := n6_
      have BKCj := n7_
      have HB := n8_
      clear n0_ n1_ n2_ n3_ n4_ n5_ n6_ n7_ n8_
      (try clear hb)
      (try clear hb2)
      (try clear hk)
      (try clear hi)
      (try clear ho0)
      obtain ⟨Ao177, co177, eo177⟩ := Kd.R_slice HOCq.out
      (first | subst eo177 | (injection eo177 with f1_ f2_ f3_; have f4_ := f1_.symm; have f5_ := f3_.symm; clear f1_ f2_ f3_; subst f4_; subst f5_))
      refine hK.out _ _ ⟨(blk_cell BKC8.out 0).trans rfl, (blk_cell BKC8.out 1).trans rfl, (blk_cell BKC8.out 2).trans rfl, (blk_cell BKC8.out 3).trans rfl, (blk_cell BKC8.out 4).trans rfl, (blk_cell BKC8.out 5).trans rfl, (blk_cell BKC8.out 6).trans rfl, (blk_cell BKBD.out 0).trans rfl, (blk_cell BKBD.out 1).trans rfl, (blk_cell BKBD.out 2).trans rfl, (blk_cell BKBD.out 3).trans rfl, (blk_cell BKBD.out 4).trans rfl, (blk_cell BKBD.out 5).trans rfl, (blk_cell BKBD.out 6).trans rfl⟩ (fun hHeld => ?_)
      clear hK K
      refine norm_ (a' := ?_) ?_ ?_
      rotate_left
      ·show Act.put _ (some 43) _ = _
       simp only [Act.put, List.setIfInBounds_toArray, List.set_cons_zero, List.set_cons_succ, i64_w, i32_w]
       rfl
      refine one_ (i := 3) (N := some 44) #[true, true, true, true, false] rfl rfl (by kernel_rfl) (by decide) (fun K hK => ?_)
      refine goes_ Try.func53 (by kernel_rfl) rfl #[.agg #[.int .i64 tBZ, .int .i64 tC0, .int .i64 tC1, .slice Ao29 tC2.length co29, .int .i64 tC5, .int .i64 tC6, .int .i64 tC7], .agg #[.int .i64 tCl, .int .i64 tCm, .int .i64 tCn, .slice Ao177 tCo.length co177, .int .i64 tCr, .int .i64 tCs, .int .i64 tCt]] (by rfl) rfl rfl argS ?_
      with_reducible refine (laws_eqRace.calls kj10 tBZ tC0 tC1 _ _ tC2 tC5 tC6 tC7 tCl tCm tCn _ _ tCo tCr tCs tCt false _ ?side1 ?side2 ?side3 ?side4 A57.out).mono ?_
      (case side1 => exact Kd.C_up (Kd.R_reads' HO_C9003.out).2.2)
      (case side2 => exact (Kd.R_reads' HO_C9003.out).2.1)
      (case side3 => exact Kd.C_up (Kd.R_reads' HOCq.out).2.2)
      (case side4 => exact (Kd.R_reads' HOCq.out).2.1)
      rintro e w178 ⟨rfl, hb⟩
      refine ⟨_, rfl, ?_⟩
      have n0_ := Aside0.mk (Kd.R_below (Kd.R_up HO_BZ003.out) hb)
      have n1_ := Aside0.mk (Kd.R_below (Kd.R_up HO_C9003.out) hb)
      have n2_ := Aside0.mk (Kd.R_below (Kd.R_up HO_Ck003.out) hb)
      have n3_ := Aside0.mk (Kd.R_below (Kd.R_up HOCq.out) hb)
      have n4_ := Aside0.mk (blk_below (blk_up BKBD.out) hb)
      have n5_ := Aside0.mk (blk_below (blk_up BKBY.out) hb)
      have n6_ := Aside0.mk (blk_below (blk_up BKC8.out) hb)
      have n7_ := Aside0.mk (blk_below (blk_up BKCj.out) hb)
      have n8_ := Aside0.mk (below_step belS hb)
      clear HO_BZ003
      clear HO_C9003
      clear HO_Ck003
      clear HOCq
      clear BKBD
      clear BKBY
      clear BKC8
      clear BKCj
      clear HB
      have HO_BZ003 := n0_
      have HO_C9003 := n1_
      have HO_Ck003 := n2_
      have HOCq := n3_
      have BKBD := n4_
      have BKBY := n5_
      have BKC8 := n6_
      have BKCj := n7_
      have HB := n8_
      clear n0_ n1_ n2_ n3_ n4_ n5_ n6_ n7_ n8_
      (try clear hb)
      (try clear hb2)
      (try clear hk)
      (try clear hi)
      refine hK.out _ _ ⟨(blk_cell BKC8.out 0).trans rfl, (blk_cell BKC8.out 1).trans rfl, (blk_cell BKC8.out 2).trans rfl, (blk_cell BKC8.out 3).trans rfl, (blk_cell BKC8.out 4).trans rfl, (blk_cell BKC8.out 5).trans rfl, (blk_cell BKC8.out 6).trans rfl, (blk_cell BKBD.out 0).trans rfl, (blk_cell BKBD.out 1).trans rfl, (blk_cell BKBD.out 2).trans rfl, (blk_cell BKBD.out 3).trans rfl, (blk_cell BKBD.out 4).trans rfl, (blk_cell BKBD.out 5).trans rfl, (blk_cell BKBD.out 6).trans rfl⟩ (fun hHeld => ?_)
      clear hK K
      refine norm_ (a' := ?_) ?_ ?_
      rotate_left
      ·show Act.put _ (some 44) _ = _
       simp only [Act.put, List.setIfInBounds_toArray, List.set_cons_zero, List.set_cons_succ, i64_w, i32_w]
       rfl
      refine pure_ (i := 4) (N := some 45) (v := ?_) (a' := ?_) #[true, true, true, true, true] rfl rfl (by kernel_rfl) (fun _ _ _ h => h) (Or.inl ⟨by rfl, ?_⟩) ?_ ?_
      rotate_left
      ·intro w'
       go_simp
       with_reducible rfl
      rotate_left
      ·simp only [Act.put, List.setIfInBounds_toArray, List.set_cons_zero, List.set_cons_succ, i64_w, i32_w]
       rfl
      refine done_ (by kernel_rfl) ?_
      try go_wp2
      go_ret
      exact ⟨by first | rfl | (simp [errW_none, errW_some] <;> rfl) | (simp [*, errW_none, errW_some] <;> rfl), by exact belS⟩

end Go.Proofs.Ytkobjjadojpjfaa.Pr
