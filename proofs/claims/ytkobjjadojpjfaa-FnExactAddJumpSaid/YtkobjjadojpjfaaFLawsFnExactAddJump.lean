-- A text of the machine side, written by wip/gen.py of this repo out of the translation. Not trusted: Lean checks it.
import Derived.Test.YtkobjjadojpjfaaF0
import Derived.Test.YtkobjjadojpjfaaFGA
import Derived.Test.YtkobjjadojpjfaaFGH
import Derived.Test.YtkobjjadojpjfaaFGM
import Derived.Test.YtkobjjadojpjfaaFImplAddJump
import Derived.Test.YtkobjjadojpjfaaFSpecAddJump
import Derived.Test.YtkobjjadojpjfaaV2
namespace Go.Proofs.Ytkobjjadojpjfaa.Pr
open Go.RowKit Go.Proofs.YtkobjjadojpjfaaW.PrintWords Go.Proofs.YtkobjjadojpjfaaW.PrintLast Go.Proofs.YtkobjjadojpjfaaW.PrintMore
attribute [local go_sem] max2_int min2_int max_two min_two max_three min_three max_four min_four   -- for this text's walks alone
set_option linter.unusedVariables false
set_option linter.unusedSimpArgs false

abbrev bLawsFnExactAddJump_0 : Array Bool := #[false, false, false, false, false, false, false, false, false, false, false]
abbrev bLawsFnExactAddJump_1 : Array Bool := #[true, false, false, false, false, false, false, false, false, false, false]
abbrev bLawsFnExactAddJump_2 : Array Bool := #[true, false, true, false, false, false, false, false, false, false, false]
abbrev bLawsFnExactAddJump_3 : Array Bool := #[true, true, true, true, true, true, true, true, true, false, false]
abbrev bLawsFnExactAddJump_4 : Array Bool := #[true, true, true, false, false, false, false, false, false, false, false]
abbrev bLawsFnExactAddJump_5 : Array Bool := #[true, false, true, false, false, false, false, false, true, false, false]
abbrev bLawsFnExactAddJump_6 : Array Bool := #[true, true, true, true, false, false, false, false, false, false, false]
abbrev bLawsFnExactAddJump_7 : Array Bool := #[true, true, true, false, false, false, false, false, true, false, false]
abbrev bLawsFnExactAddJump_8 : Array Bool := #[true, true, true, true, true, false, false, false, false, false, false]
abbrev bLawsFnExactAddJump_9 : Array Bool := #[true, true, true, true, false, false, false, false, true, false, false]
abbrev bLawsFnExactAddJump_10 : Array Bool := #[true, true, true, true, true, true, false, false, false, false, false]
abbrev bLawsFnExactAddJump_11 : Array Bool := #[true, true, true, true, true, true, true, false, false, false, false]
abbrev bLawsFnExactAddJump_12 : Array Bool := #[true, true, true, true, true, true, true, true, false, false, false]
abbrev bLawsFnExactAddJump_13 : Array Bool := #[true, true, true, true, true, false, false, false, true, false, false]
abbrev bLawsFnExactAddJump_14 : Array Bool := #[true, true, true, true, true, true, false, false, true, false, false]
abbrev bLawsFnExactAddJump_15 : Array Bool := #[true, true, true, true, true, true, true, false, true, false, false]
abbrev bLawsFnExactAddJump_16 : Array Bool := #[true, true, true, true, true, true, true, true, true, true, false]
abbrev bLawsFnExactAddJump_17 : Array Bool := #[true, true, true, true, true, true, true, true, true, true, true]
abbrev bLawsFnExactAddJump_18 : Array Bool := #[true, true, true, true, true, true, true, true, false, false]
abbrev bLawsFnExactAddJump_19 : Array Bool := #[true, true, true, false, false, false, false, true, false, false]
abbrev bLawsFnExactAddJump_20 : Array Bool := #[true, true, true, true, false, false, false, true, false, false]
abbrev bLawsFnExactAddJump_21 : Array Bool := #[true, true, true, true, true, false, false, true, false, false]
abbrev bLawsFnExactAddJump_22 : Array Bool := #[true, true, true, true, true, true, false, true, false, false]
/-! ### laws_FnExactAddJump: function 28 -/
mutual
def laws_FnExactAddJump.j0 : Nat → Bool → Bool → Bool → Int → Int → Int → List (S82) → Int → Int → Int → Int → Int → List (S27) → Int → Int → Int → List (S27) → Int → Int → Int → List (S27) → Option (Bool)
 | 0, _, _, _, _, _, _, _, _, _, _, _, _, _, _, _, _, _, _, _, _, _ => none
 | k + 1, x7, x10, x46, xBE000, xBE001, xBE002, xBE003, xBF000, xBF001, xBW000, xBW001, xBW002, xBW003, xC3000, xC3001, xC3002, xC3003, xCd000, xCd001, xCd002, xCd003 => if x46 = true then (some false) else ((laws_toBoard.f k xBE000 xBE001 xBE002 xBE003).bind fun btCe => ((laws_eqBoard.f k xC3000 xC3001 xC3002 xC3003 btCe.1 btCe.2.1 btCe.2.2.1 btCe.2.2.2).bind fun tCk => (if tCk = true then ((laws_markBoard.f k xC3000 xC3001 xC3002 xC3003 1).bind fun btCl => (if btCl.1 < 0 then (laws_FnExactAddJump.j1 k x7 true xBE000 xBE001 xBE002 xBE003 xBF000 xBF001 xBW000 xBW001 xBW002 xBW003 xCd000 xCd001 xCd002 xCd003) else ((laws_eqBoard.f k xCd000 xCd001 xCd002 xCd003 xBW000 xBW001 xBW002 xBW003).bind fun tCn => (if tCn = true then (laws_FnExactAddJump.j1 k x7 (x10 != x7) xBE000 xBE001 xBE002 xBE003 xBF000 xBF001 xBW000 xBW001 xBW002 xBW003 xCd000 xCd001 xCd002 xCd003) else (laws_FnExactAddJump.j1 k x7 true xBE000 xBE001 xBE002 xBE003 xBF000 xBF001 xBW000 xBW001 xBW002 xBW003 xCd000 xCd001 xCd002 xCd003))))) else (some false))))
def laws_FnExactAddJump.j1 : Nat → Bool → Bool → Int → Int → Int → List (S82) → Int → Int → Int → Int → Int → List (S27) → Int → Int → Int → List (S27) → Option (Bool)
 | 0, _, _, _, _, _, _, _, _, _, _, _, _, _, _, _, _ => none
 | k + 1, x7, x67, xBE000, xBE001, xBE002, xBE003, xBF000, xBF001, xBW000, xBW001, xBW002, xBW003, xCd000, xCd001, xCd002, xCd003 => if x67 = true then (some false) else ((laws_markBoard.f k xCd000 xCd001 xCd002 xCd003 1).bind fun btCo => ((laws_heldBoard.f k xCd000 xCd001 xCd002 btCo.2 1).bind fun tCq => (if tCq < 0 then (some false) else (if tCq = btCo.1 then ((laws_toBoard.f k xBE000 xBE001 xBE002 xBE003).bind fun btCr => ((laws_toJump.f xBF000 xBF001).bind fun btCx => ((impl_AddJump.f k btCr.1 btCr.2.1 btCr.2.2.1 btCr.2.2.2 btCx.1 btCx.2).bind fun btCz => ((laws_eqBoard.f k btCz.1 btCz.2.1 btCz.2.2.1 btCz.2.2.2.1 xBW000 xBW001 xBW002 xBW003).bind fun tCH => (if tCH = true then (laws_FnExactAddJump.j2 k btCo.1 (btCz.2.2.2.2 != x7) xCd000 xCd001 xCd002 btCo.2) else (laws_FnExactAddJump.j2 k btCo.1 true xCd000 xCd001 xCd002 btCo.2)))))) else (some false)))))
def laws_FnExactAddJump.j2 : Nat → Int → Bool → Int → Int → Int → List (S27) → Option (Bool)
 | 0, _, _, _, _, _, _ => none
 | k + 1, x12, x95, xCd000, xCd001, xCd002, xCd003 => if x95 = true then (some false) else ((laws_heldBoard.f k xCd000 xCd001 xCd002 xCd003 1).bind fun tCI => (if tCI < 0 then (some false) else (if tCI = x12 then (some true) else (some false))))
end
def laws_FnExactAddJump.f (k : Nat) (a0_0 : Int) (a0_1 : Int) (a0_2 : Int) (l0_3 : List (S82)) (a1_0 : Int) (a1_1 : Int) : Option (Bool) := (laws_szBoard.f a0_0 a0_1 a0_2 l0_3 1048576).bind fun tBF => (if tBF < 0 then (some true) else ((laws_toBoard.f k a0_0 a0_1 a0_2 l0_3).bind fun btBG => ((laws_toJump.f a1_0 a1_1).bind fun btBM => ((spec_AddJump.f k btBG.1 btBG.2.1 btBG.2.2.1 btBG.2.2.2 btBM.1 btBM.2).bind fun btBO => ((laws_toBoard.f k a0_0 a0_1 a0_2 l0_3).bind fun btBW => ((laws_toJump.f a1_0 a1_1).bind fun btC3 => ((impl_AddJump.f k btBW.1 btBW.2.1 btBW.2.2.1 btBW.2.2.2 btC3.1 btC3.2).bind fun btC5 => ((laws_eqBoard.f k btC5.1 btC5.2.1 btC5.2.2.1 btC5.2.2.2.1 btBO.1 btBO.2.1 btBO.2.2.1 btBO.2.2.2.1).bind fun tCd => (if tCd = true then (laws_FnExactAddJump.j0 k btBO.2.2.2.2 btC5.2.2.2.2 (btC5.2.2.2.2 != btBO.2.2.2.2) a0_0 a0_1 a0_2 l0_3 a1_0 a1_1 btBO.1 btBO.2.1 btBO.2.2.1 btBO.2.2.2.1 btBW.1 btBW.2.1 btBW.2.2.1 btBW.2.2.2 btC5.1 btC5.2.1 btC5.2.2.1 btC5.2.2.2.1) else (laws_FnExactAddJump.j0 k btBO.2.2.2.2 btC5.2.2.2.2 true a0_0 a0_1 a0_2 l0_3 a1_0 a1_1 btBO.1 btBO.2.1 btBO.2.2.1 btBO.2.2.2.1 btBW.1 btBW.2.1 btBW.2.2.1 btBW.2.2.2 btC5.1 btC5.2.1 btC5.2.2.1 btC5.2.2.2.1))))))))))
def laws_FnExactAddJump.T5 : Bool × List (List Nat × List Nat) := (true, [([], []), ([0], [0]), ([], []), ([2, 1], [2]), ([1, 3, 3], [1, 3]), ([4], [4]), ([5], [5]), ([5], [5]), ([], []), ([8, 6, 4, 0, 1, 2, 3, 4, 5, 6, 8], [6, 8]), ([7, 9, 0, 1, 2, 3, 4, 5, 6, 7, 8, 9], [7])])
def laws_FnExactAddJump.B5 : List Nat := [0, 1, 0, 7, 15, 31, 63, 63, 0, 383, 1023]
theorem laws_FnExactAddJump.tab5 : rtab .any (opsOf Try.f28 5) = laws_FnExactAddJump.T5 := by kernel_rfl
theorem laws_FnExactAddJump.bits5 : waitsOk laws_FnExactAddJump.T5.2 laws_FnExactAddJump.B5 = true := by kernel_rfl
def laws_FnExactAddJump.T7 : Bool × List (List Nat × List Nat) := (true, [([], []), ([], []), ([1], [1]), ([0, 2, 2], [0, 2]), ([3], [3]), ([4], [4]), ([4], [4]), ([], []), ([7, 5, 3, 0, 1, 2, 3, 4, 5, 7], [5, 7]), ([6, 8, 0, 1, 2, 3, 4, 5, 6, 7, 8], [6])])
def laws_FnExactAddJump.B7 : List Nat := [0, 0, 2, 7, 15, 31, 31, 0, 191, 511]
theorem laws_FnExactAddJump.tab7 : rtab .any (opsOf Try.f28 7) = laws_FnExactAddJump.T7 := by kernel_rfl
theorem laws_FnExactAddJump.bits7 : waitsOk laws_FnExactAddJump.T7.2 laws_FnExactAddJump.B7 = true := by kernel_rfl
def laws_FnExactAddJump.T24 : Bool × List (List Nat × List Nat) := (true, [([], []), ([0], [0]), ([], []), ([2, 1], [2]), ([1, 3, 3], [1, 3]), ([4], [4]), ([5], [5]), ([5], [5]), ([], []), ([8, 6, 4, 0, 1, 2, 3, 4, 5, 6, 8], [6, 8]), ([7, 9, 0, 1, 2, 3, 4, 5, 6, 7, 8, 9], [7])])
def laws_FnExactAddJump.B24 : List Nat := [0, 1, 0, 7, 15, 31, 63, 63, 0, 383, 1023]
theorem laws_FnExactAddJump.tab24 : rtab .any (opsOf Try.f28 24) = laws_FnExactAddJump.T24 := by kernel_rfl
theorem laws_FnExactAddJump.bits24 : waitsOk laws_FnExactAddJump.T24.2 laws_FnExactAddJump.B24 = true := by kernel_rfl
set_option maxHeartbeats 8000000 in
set_option maxRecDepth 100000 in
theorem laws_FnExactAddJump.calls (k : Nat) (a0_0 : Int) (a0_1 : Int) (a0_2 : Int) (A0_3 : Option Addr) (c0_3 : Nat) (l0_3 : List (S82)) (a1_0 : Int) (a1_1 : Int) (r : Bool) (w : World) (hr0_3 : Kd.C k82 w A0_3 l0_3.length l0_3) (hc0_3 : l0_3.length ≤ c0_3) (h : laws_FnExactAddJump.f k a0_0 a0_1 a0_2 l0_3 a1_0 a1_1 = some r) :
  Calls Try.prog 28 #[.agg #[.int .i64 a0_0, .int .i64 a0_1, .int .i64 a0_2, .slice A0_3 l0_3.length c0_3], .agg #[.int .i64 a1_0, .int .i64 a1_1]] w fun e w' => e = .returned (.bool r) ∧ Below w.heap.size w w' := by
 have hu24 := Try.underlying24
 have hu82 := Try.underlying82
 have hu32 := Try.underlying32
 have HR0_3 := Aside0.mk hr0_3
 have HC0_3 := Aside0.mk hc0_3
 clear hr0_3 hc0_3
 have HB := Aside0.mk (Below.refl w.heap.size w)
 have H : ((laws_szBoard.f a0_0 a0_1 a0_2 l0_3 1048576).bind fun tBF => (if tBF < 0 then (some true) else ((laws_toBoard.f k a0_0 a0_1 a0_2 l0_3).bind fun btBG => ((laws_toJump.f a1_0 a1_1).bind fun btBM => ((spec_AddJump.f k btBG.1 btBG.2.1 btBG.2.2.1 btBG.2.2.2 btBM.1 btBM.2).bind fun btBO => ((laws_toBoard.f k a0_0 a0_1 a0_2 l0_3).bind fun btBW => ((laws_toJump.f a1_0 a1_1).bind fun btC3 => ((impl_AddJump.f k btBW.1 btBW.2.1 btBW.2.2.1 btBW.2.2.2 btC3.1 btC3.2).bind fun btC5 => ((laws_eqBoard.f k btC5.1 btC5.2.1 btC5.2.2.1 btC5.2.2.2.1 btBO.1 btBO.2.1 btBO.2.2.1 btBO.2.2.2.1).bind fun tCd => (if tCd = true then (laws_FnExactAddJump.j0 k btBO.2.2.2.2 btC5.2.2.2.2 (btC5.2.2.2.2 != btBO.2.2.2.2) a0_0 a0_1 a0_2 l0_3 a1_0 a1_1 btBO.1 btBO.2.1 btBO.2.2.1 btBO.2.2.2.1 btBW.1 btBW.2.1 btBW.2.2.1 btBW.2.2.2 btC5.1 btC5.2.1 btC5.2.2.1 btC5.2.2.2.1) else (laws_FnExactAddJump.j0 k btBO.2.2.2.2 btC5.2.2.2.2 true a0_0 a0_1 a0_2 l0_3 a1_0 a1_1 btBO.1 btBO.2.1 btBO.2.2.1 btBO.2.2.2.1 btBW.1 btBW.2.1 btBW.2.2.1 btBW.2.2.2 btC5.1 btC5.2.1 btC5.2.2.1 btC5.2.2.2.1))))))))))) = some r := h
 clear h
 replace H := Option.bind_eq_some_iff.mp H
 obtain ⟨tBF, A30, H⟩ := H
 replace H : (if tBF < 0 then (some true) else ((laws_toBoard.f k a0_0 a0_1 a0_2 l0_3).bind fun btBG => ((laws_toJump.f a1_0 a1_1).bind fun btBM => ((spec_AddJump.f k btBG.1 btBG.2.1 btBG.2.2.1 btBG.2.2.2 btBM.1 btBM.2).bind fun btBO => ((laws_toBoard.f k a0_0 a0_1 a0_2 l0_3).bind fun btBW => ((laws_toJump.f a1_0 a1_1).bind fun btC3 => ((impl_AddJump.f k btBW.1 btBW.2.1 btBW.2.2.1 btBW.2.2.2 btC3.1 btC3.2).bind fun btC5 => ((laws_eqBoard.f k btC5.1 btC5.2.1 btC5.2.2.1 btC5.2.2.2.1 btBO.1 btBO.2.1 btBO.2.2.1 btBO.2.2.2.1).bind fun tCd => (if tCd = true then (laws_FnExactAddJump.j0 k btBO.2.2.2.2 btC5.2.2.2.2 (btC5.2.2.2.2 != btBO.2.2.2.2) a0_0 a0_1 a0_2 l0_3 a1_0 a1_1 btBO.1 btBO.2.1 btBO.2.2.1 btBO.2.2.2.1 btBW.1 btBW.2.1 btBW.2.2.1 btBW.2.2.2 btC5.1 btC5.2.1 btC5.2.2.1 btC5.2.2.2.1) else (laws_FnExactAddJump.j0 k btBO.2.2.2.2 btC5.2.2.2.2 true a0_0 a0_1 a0_2 l0_3 a1_0 a1_1 btBO.1 btBO.2.1 btBO.2.2.1 btBO.2.2.2.1 btBW.1 btBW.2.1 btBW.2.2.1 btBW.2.2.2 btC5.1 btC5.2.1 btC5.2.2.1 btC5.2.2.2.1)))))))))) = some r := H
 have A3 := Aside0.mk A30
 clear A30
 by_cases c4 : tBF < 0
 ·rw [if_pos c4] at H
  have c4b0 : decide (tBF < 0) = true := decide_eq_true c4
  clear c4
  obtain rfl := Option.some.inj H
  go_enter Try.func28, Try.ntmps28
  go_wp2_with (first | ((with_reducible refine gate_dst (N := 2) rfl ?_); refine box_event ?hg (N := 2) ?hd (cs := #[.int .i64 a0_0, .int .i64 a0_1, .int .i64 a0_2, .slice A0_3 l0_3.length c0_3]) (t := 24) ?hr ?_; (case hd => rfl); (case hg => rfl); (case hr => first | (go_simp; done) | (go_simp; rfl)); intro gbBD hg w5 hbox hb; have n0_ := Aside0.mk (below_step belS hb); have n1_ := Aside0.mk (hbox); have n2_ := Aside0.mk (geS hg : w.heap.size ≤ gbBD); have n3_ := n2_; clear HB; revert n0_ n1_ n2_ n3_; intro HB BKBD GWBD GEBD; clear hb hbox hg) | ((with_reducible refine gate_dst (N := 3) rfl ?_); refine box_event ?hg (N := 3) ?hd (cs := #[.int .i64 a1_0, .int .i64 a1_1]) (t := 82) ?hr ?_; (case hd => rfl); (case hg => rfl); (case hr => first | (go_simp; done) | (go_simp; rfl)); intro gbBE hg w6 hbox hb; have n0_ := Aside0.mk (blk_below (blk_up BKBD.out) hb); have n1_ := Aside0.mk (below_step belS hb); have n2_ := Aside0.mk (hbox); have n3_ := Aside0.mk (geS hg : w.heap.size ≤ gbBE); have n4_ := n3_; have n5_ := Aside0.mk ((by rw [hg]; exact Nat.ne_of_lt (blk_lt (blk_up BKBD.out)) : gbBD ≠ gbBE)); have n6_ := Aside0.mk ((by rw [hg]; exact Nat.ne_of_gt (blk_lt (blk_up BKBD.out)) : gbBE ≠ gbBD)); clear BKBD HB; revert n0_ n1_ n2_ n3_ n4_ n5_ n6_; intro BKBD HB BKBE GWBE GEBE NBBD_BE NBBE_BD; clear hb hbox hg; have hnb7 := NBBD_BE.out; have hnc7 := NBBE_BD.out; obtain ⟨hcz8_0, hcz8_1, hcz8_2, hcz8_3, hfz8_0, hfz8_1, hfz8_2, hfz8_3⟩ := blk4 BKBD.out) | ((with_reducible refine gate_callee (f := 37) rfl ?_); refine goesL_ (some 18) rfl rfl Try.func37 (by kernel_rfl) rfl #[.agg #[.int .i64 a0_0, .int .i64 a0_1, .int .i64 a0_2, .slice A0_3 l0_3.length c0_3], .int .i64 1048576] rfl argS ?_; (with_reducible refine (laws_szBoard.calls a0_0 a0_1 a0_2 _ _ l0_3 1048576 tBF _ ?side1 ?side2 A3.out).mono ?_); (case side1 => exact Kd.C_up (Kd.C_below HR0_3.out HB.out)); (case side2 => exact HC0_3.out); rintro e w9 ⟨rfl, hb⟩; refine ⟨_, rfl, ?_⟩; have n0_ := Aside0.mk (blk_below (blk_up BKBD.out) hb); have n1_ := Aside0.mk (blk_below (blk_up BKBE.out) hb); have n2_ := Aside0.mk (below_step belS hb); clear BKBD BKBE HB; revert n0_ n1_ n2_; intro BKBD BKBE HB; (try clear hb)))
  go_ret
  exact ⟨by first | rfl | (simp [errW_none, errW_some] <;> rfl) | (simp [*, errW_none, errW_some] <;> rfl), by exact belS⟩
 ·rw [if_neg c4] at H
  have c4b0 : decide (tBF < 0) = false := decide_eq_false c4
  clear c4
  replace H := Option.bind_eq_some_iff.mp H
  obtain ⟨⟨tBG, tBH, tBI, tBJ⟩, A100, H⟩ := H
  replace H : ((laws_toJump.f a1_0 a1_1).bind fun btBM => ((spec_AddJump.f k tBG tBH tBI tBJ btBM.1 btBM.2).bind fun btBO => ((laws_toBoard.f k a0_0 a0_1 a0_2 l0_3).bind fun btBW => ((laws_toJump.f a1_0 a1_1).bind fun btC3 => ((impl_AddJump.f k btBW.1 btBW.2.1 btBW.2.2.1 btBW.2.2.2 btC3.1 btC3.2).bind fun btC5 => ((laws_eqBoard.f k btC5.1 btC5.2.1 btC5.2.2.1 btC5.2.2.2.1 btBO.1 btBO.2.1 btBO.2.2.1 btBO.2.2.2.1).bind fun tCd => (if tCd = true then (laws_FnExactAddJump.j0 k btBO.2.2.2.2 btC5.2.2.2.2 (btC5.2.2.2.2 != btBO.2.2.2.2) a0_0 a0_1 a0_2 l0_3 a1_0 a1_1 btBO.1 btBO.2.1 btBO.2.2.1 btBO.2.2.2.1 btBW.1 btBW.2.1 btBW.2.2.1 btBW.2.2.2 btC5.1 btC5.2.1 btC5.2.2.1 btC5.2.2.2.1) else (laws_FnExactAddJump.j0 k btBO.2.2.2.2 btC5.2.2.2.2 true a0_0 a0_1 a0_2 l0_3 a1_0 a1_1 btBO.1 btBO.2.1 btBO.2.2.1 btBO.2.2.2.1 btBW.1 btBW.2.1 btBW.2.2.1 btBW.2.2.2 btC5.1 btC5.2.1 btC5.2.2.1 btC5.2.2.2.1)))))))) = some r := H
  have A10 := Aside0.mk A100
  clear A100
  replace H := Option.bind_eq_some_iff.mp H
  obtain ⟨⟨tBM, tBN⟩, A110, H⟩ := H
  replace H : ((spec_AddJump.f k tBG tBH tBI tBJ tBM tBN).bind fun btBO => ((laws_toBoard.f k a0_0 a0_1 a0_2 l0_3).bind fun btBW => ((laws_toJump.f a1_0 a1_1).bind fun btC3 => ((impl_AddJump.f k btBW.1 btBW.2.1 btBW.2.2.1 btBW.2.2.2 btC3.1 btC3.2).bind fun btC5 => ((laws_eqBoard.f k btC5.1 btC5.2.1 btC5.2.2.1 btC5.2.2.2.1 btBO.1 btBO.2.1 btBO.2.2.1 btBO.2.2.2.1).bind fun tCd => (if tCd = true then (laws_FnExactAddJump.j0 k btBO.2.2.2.2 btC5.2.2.2.2 (btC5.2.2.2.2 != btBO.2.2.2.2) a0_0 a0_1 a0_2 l0_3 a1_0 a1_1 btBO.1 btBO.2.1 btBO.2.2.1 btBO.2.2.2.1 btBW.1 btBW.2.1 btBW.2.2.1 btBW.2.2.2 btC5.1 btC5.2.1 btC5.2.2.1 btC5.2.2.2.1) else (laws_FnExactAddJump.j0 k btBO.2.2.2.2 btC5.2.2.2.2 true a0_0 a0_1 a0_2 l0_3 a1_0 a1_1 btBO.1 btBO.2.1 btBO.2.2.1 btBO.2.2.2.1 btBW.1 btBW.2.1 btBW.2.2.1 btBW.2.2.2 btC5.1 btC5.2.1 btC5.2.2.1 btC5.2.2.2.1))))))) = some r := H
  have A11 := Aside0.mk A110
  clear A110
  replace H := Option.bind_eq_some_iff.mp H
  obtain ⟨⟨tBO, tBP, tBQ, tBR, tBU⟩, A120, H⟩ := H
  replace H : ((laws_toBoard.f k a0_0 a0_1 a0_2 l0_3).bind fun btBW => ((laws_toJump.f a1_0 a1_1).bind fun btC3 => ((impl_AddJump.f k btBW.1 btBW.2.1 btBW.2.2.1 btBW.2.2.2 btC3.1 btC3.2).bind fun btC5 => ((laws_eqBoard.f k btC5.1 btC5.2.1 btC5.2.2.1 btC5.2.2.2.1 tBO tBP tBQ tBR).bind fun tCd => (if tCd = true then (laws_FnExactAddJump.j0 k tBU btC5.2.2.2.2 (btC5.2.2.2.2 != tBU) a0_0 a0_1 a0_2 l0_3 a1_0 a1_1 tBO tBP tBQ tBR btBW.1 btBW.2.1 btBW.2.2.1 btBW.2.2.2 btC5.1 btC5.2.1 btC5.2.2.1 btC5.2.2.2.1) else (laws_FnExactAddJump.j0 k tBU btC5.2.2.2.2 true a0_0 a0_1 a0_2 l0_3 a1_0 a1_1 tBO tBP tBQ tBR btBW.1 btBW.2.1 btBW.2.2.1 btBW.2.2.2 btC5.1 btC5.2.1 btC5.2.2.1 btC5.2.2.2.1)))))) = some r := H
  have A12 := Aside0.mk A120
  clear A120
  replace H := Option.bind_eq_some_iff.mp H
  obtain ⟨⟨tBW, tBX, tBY, tBZ⟩, A130, H⟩ := H
  replace H : ((laws_toJump.f a1_0 a1_1).bind fun btC3 => ((impl_AddJump.f k tBW tBX tBY tBZ btC3.1 btC3.2).bind fun btC5 => ((laws_eqBoard.f k btC5.1 btC5.2.1 btC5.2.2.1 btC5.2.2.2.1 tBO tBP tBQ tBR).bind fun tCd => (if tCd = true then (laws_FnExactAddJump.j0 k tBU btC5.2.2.2.2 (btC5.2.2.2.2 != tBU) a0_0 a0_1 a0_2 l0_3 a1_0 a1_1 tBO tBP tBQ tBR tBW tBX tBY tBZ btC5.1 btC5.2.1 btC5.2.2.1 btC5.2.2.2.1) else (laws_FnExactAddJump.j0 k tBU btC5.2.2.2.2 true a0_0 a0_1 a0_2 l0_3 a1_0 a1_1 tBO tBP tBQ tBR tBW tBX tBY tBZ btC5.1 btC5.2.1 btC5.2.2.1 btC5.2.2.2.1))))) = some r := H
  have A13 := Aside0.mk A130
  clear A130
  replace H := Option.bind_eq_some_iff.mp H
  obtain ⟨⟨tC3, tC4⟩, A140, H⟩ := H
  replace H : ((impl_AddJump.f k tBW tBX tBY tBZ tC3 tC4).bind fun btC5 => ((laws_eqBoard.f k btC5.1 btC5.2.1 btC5.2.2.1 btC5.2.2.2.1 tBO tBP tBQ tBR).bind fun tCd => (if tCd = true then (laws_FnExactAddJump.j0 k tBU btC5.2.2.2.2 (btC5.2.2.2.2 != tBU) a0_0 a0_1 a0_2 l0_3 a1_0 a1_1 tBO tBP tBQ tBR tBW tBX tBY tBZ btC5.1 btC5.2.1 btC5.2.2.1 btC5.2.2.2.1) else (laws_FnExactAddJump.j0 k tBU btC5.2.2.2.2 true a0_0 a0_1 a0_2 l0_3 a1_0 a1_1 tBO tBP tBQ tBR tBW tBX tBY tBZ btC5.1 btC5.2.1 btC5.2.2.1 btC5.2.2.2.1)))) = some r := H
  have A14 := Aside0.mk A140
  clear A140
  replace H := Option.bind_eq_some_iff.mp H
  obtain ⟨⟨tC5, tC6, tC7, tC8, tCb⟩, A150, H⟩ := H
  replace H : ((laws_eqBoard.f k tC5 tC6 tC7 tC8 tBO tBP tBQ tBR).bind fun tCd => (if tCd = true then (laws_FnExactAddJump.j0 k tBU tCb (tCb != tBU) a0_0 a0_1 a0_2 l0_3 a1_0 a1_1 tBO tBP tBQ tBR tBW tBX tBY tBZ tC5 tC6 tC7 tC8) else (laws_FnExactAddJump.j0 k tBU tCb true a0_0 a0_1 a0_2 l0_3 a1_0 a1_1 tBO tBP tBQ tBR tBW tBX tBY tBZ tC5 tC6 tC7 tC8))) = some r := H
  have A15 := Aside0.mk A150
  clear A150
  have HC16 := Aside0.mk H
  clear H
  go_enter Try.func28, Try.ntmps28
  try go_wp2_with (first | ((with_reducible refine gate_dst (N := 2) rfl ?_); refine box_event ?hg (N := 2) ?hd (cs := #[.int .i64 a0_0, .int .i64 a0_1, .int .i64 a0_2, .slice A0_3 l0_3.length c0_3]) (t := 24) ?hr ?_; (case hd => rfl); (case hg => rfl); (case hr => first | (go_simp; done) | (go_simp; rfl)); intro gbBD hg w17 hbox hb; have n0_ := Aside0.mk (below_step belS hb); have n1_ := Aside0.mk (hbox); have n2_ := Aside0.mk (geS hg : w.heap.size ≤ gbBD); have n3_ := n2_; clear HB; revert n0_ n1_ n2_ n3_; intro HB BKBD GWBD GEBD; clear hb hbox hg) | ((with_reducible refine gate_dst (N := 3) rfl ?_); refine box_event ?hg (N := 3) ?hd (cs := #[.int .i64 a1_0, .int .i64 a1_1]) (t := 82) ?hr ?_; (case hd => rfl); (case hg => rfl); (case hr => first | (go_simp; done) | (go_simp; rfl)); intro gbBE hg w18 hbox hb; have n0_ := Aside0.mk (blk_below (blk_up BKBD.out) hb); have n1_ := Aside0.mk (below_step belS hb); have n2_ := Aside0.mk (hbox); have n3_ := Aside0.mk (geS hg : w.heap.size ≤ gbBE); have n4_ := n3_; have n5_ := Aside0.mk ((by rw [hg]; exact Nat.ne_of_lt (blk_lt (blk_up BKBD.out)) : gbBD ≠ gbBE)); have n6_ := Aside0.mk ((by rw [hg]; exact Nat.ne_of_gt (blk_lt (blk_up BKBD.out)) : gbBE ≠ gbBD)); clear BKBD HB; revert n0_ n1_ n2_ n3_ n4_ n5_ n6_; intro BKBD HB BKBE GWBE GEBE NBBD_BE NBBE_BD; clear hb hbox hg; have hnb19 := NBBD_BE.out; have hnc19 := NBBE_BD.out; obtain ⟨hcz20_0, hcz20_1, hcz20_2, hcz20_3, hfz20_0, hfz20_1, hfz20_2, hfz20_3⟩ := blk4 BKBD.out) | ((with_reducible refine gate_callee (f := 37) rfl ?_); refine goesL_ (some 18) rfl rfl Try.func37 (by kernel_rfl) rfl #[.agg #[.int .i64 a0_0, .int .i64 a0_1, .int .i64 a0_2, .slice A0_3 l0_3.length c0_3], .int .i64 1048576] rfl argS ?_; (with_reducible refine (laws_szBoard.calls a0_0 a0_1 a0_2 _ _ l0_3 1048576 tBF _ ?side1 ?side2 A3.out).mono ?_); (case side1 => exact Kd.C_up (Kd.C_below HR0_3.out HB.out)); (case side2 => exact HC0_3.out); rintro e w21 ⟨rfl, hb⟩; refine ⟨_, rfl, ?_⟩; have n0_ := Aside0.mk (blk_below (blk_up BKBD.out) hb); have n1_ := Aside0.mk (blk_below (blk_up BKBE.out) hb); have n2_ := Aside0.mk (below_step belS hb); clear BKBD BKBE HB; revert n0_ n1_ n2_; intro BKBD BKBE HB; (try clear hb)))
  have n0_ := Aside0.mk (blk_drew BKBD.out)
  have n1_ := Aside0.mk (blk_drew BKBE.out)
  have n2_ := Aside0.mk (below_drew1 HB.out)
  clear BKBD
  clear BKBE
  clear HB
  have BKBD := n0_
  have BKBE := n1_
  have HB := n2_
  clear n0_ n1_ n2_
  refine start_ (n := 11) (S := fun w' => w'.cell? ⟨gbBD, 0, none⟩ = some (.int .i64 a0_0) ∧ w'.cell? ⟨gbBD, 1, none⟩ = some (.int .i64 a0_1) ∧ w'.cell? ⟨gbBD, 2, none⟩ = some (.int .i64 a0_2) ∧ w'.cell? ⟨gbBD, 3, none⟩ = some (.slice A0_3 l0_3.length c0_3) ∧ w'.cell? ⟨gbBE, 0, none⟩ = some (.int .i64 a1_0) ∧ w'.cell? ⟨gbBE, 1, none⟩ = some (.int .i64 a1_1)) (ds := []) bLawsFnExactAddJump_0 (by kernel_rfl) rfl rfl ⟨(blk_cell BKBD.out 0).trans rfl, (blk_cell BKBD.out 1).trans rfl, (blk_cell BKBD.out 2).trans rfl, (blk_cell BKBD.out 3).trans rfl, (blk_cell BKBE.out 0).trans rfl, (blk_cell BKBE.out 1).trans rfl⟩ (fun hHeld => ?_); refine with_tabW laws_FnExactAddJump.tab5 laws_FnExactAddJump.bits5 (fun HT_ HW_ => ?_)
  generalize w21.drew = w22 at BKBD BKBE HB hHeld ⊢
  refine take_ (i := 0) (N := some 22) (v := ?_) (a' := ?_) bLawsFnExactAddJump_1 rfl rfl (take_ofW HT_.out HW_.out (by kernel_rfl)) (fun _ _ _ h => h) (Or.inl ⟨by rfl, ?_⟩) hHeld ?_ ?_
  rotate_left
  ·rintro w' ⟨s0, s1, s2, s3, s4, s5⟩
   go_simp
   with_reducible rfl
  rotate_left
  ·simp only [Act.put, sA_, sB_, sC_, i64_w, i32_w]
   rfl
  refine take_ (i := 2) (N := some 24) (v := ?_) (a' := ?_) bLawsFnExactAddJump_2 rfl rfl (take_ofW HT_.out HW_.out (by kernel_rfl)) (fun _ _ _ h => h) (Or.inl ⟨by rfl, ?_⟩) hHeld ?_ ?_
  rotate_left
  ·rintro w' ⟨s0, s1, s2, s3, s4, s5⟩
   go_simp
   with_reducible rfl
  rotate_left
  ·simp only [Act.put, sA_, sB_, sC_, i64_w, i32_w]
   rfl
  refine join_ (σ := Value × Value × Nat) 2 bLawsFnExactAddJump_3 (fun s_ => [(23, .agg #[.int .i64 tBG, .int .i64 tBH, .int .i64 tBI, s_.1]), (25, .agg #[.int .i64 tBM, .int .i64 tBN]), (26, .tuple #[.agg #[.int .i64 tBO, .int .i64 tBP, .int .i64 tBQ, s_.2.1], .bool tBU]), (6, .pointer (some ⟨s_.2.2, 0, none⟩)), (21, .tuple #[.agg #[.int .i64 tBO, .int .i64 tBP, .int .i64 tBQ, s_.2.1], .bool tBU]), (27, .agg #[.int .i64 tBO, .int .i64 tBP, .int .i64 tBQ, s_.2.1]), (28, .bool tBU)]) (fun s_ w' => (w'.cell? ⟨gbBD, 0, none⟩ = some (.int .i64 a0_0) ∧ w'.cell? ⟨gbBD, 1, none⟩ = some (.int .i64 a0_1) ∧ w'.cell? ⟨gbBD, 2, none⟩ = some (.int .i64 a0_2) ∧ w'.cell? ⟨gbBD, 3, none⟩ = some (.slice A0_3 l0_3.length c0_3) ∧ w'.cell? ⟨gbBE, 0, none⟩ = some (.int .i64 a1_0) ∧ w'.cell? ⟨gbBE, 1, none⟩ = some (.int .i64 a1_1)) ∧ (Kd.R k27 27 w' w.heap.size (fun k_ => some k_ ≠ (s_.2.1 : Value).ownBlock) s_.1 tBJ) ∧ (Kd.R k27 27 w' w.heap.size (fun k_ => some k_ ≠ (s_.1 : Value).ownBlock) s_.2.1 tBR) ∧ (w'.heap[gbBD]? = some (.cells #[.int .i64 a0_0, .int .i64 a0_1, .int .i64 a0_2, .slice A0_3 l0_3.length c0_3] 24 (0, 0))) ∧ (w'.heap[gbBE]? = some (.cells #[.int .i64 a1_0, .int .i64 a1_1] 82 (0, 0))) ∧ (w'.heap[s_.2.2]? = some (.cells #[.int .i64 0, .int .i64 0, .int .i64 0, .slice none 0 0] 32 (0, 0))) ∧ (w.heap.size ≤ s_.2.2) ∧ (w.heap.size ≤ s_.2.2) ∧ (gbBD ≠ s_.2.2) ∧ (s_.2.2 ≠ gbBD) ∧ (gbBE ≠ s_.2.2) ∧ (s_.2.2 ≠ gbBE) ∧ (Below w.heap.size w w')) ?_ ?_
  rotate_left
  ·intro hCont
   refine two_ (i := 1) (j := 8) (Ni := some 23) (Nj := some 6) bLawsFnExactAddJump_4 bLawsFnExactAddJump_5 rfl rfl rfl rfl (two_of HT_.out (by kernel_rfl)) (by decide) (by decide) (fun K hK => ?_) (fun K hK => ?_)
   ·skip
    refine goes_ Try.func39 (by kernel_rfl) rfl #[.agg #[.int .i64 a0_0, .int .i64 a0_1, .int .i64 a0_2, .slice A0_3 l0_3.length c0_3]] (by rfl) rfl rfl argS ?_
    with_reducible refine (laws_toBoard.calls k a0_0 a0_1 a0_2 _ _ l0_3 tBG tBH tBI tBJ _ ?side1 ?side2 A10.out).mono ?_
    (case side1 => exact Kd.C_up (Kd.C_below HR0_3.out HB.out))
    (case side2 => exact HC0_3.out)
    rintro e w23 ⟨vBK, rfl, ho0, hb⟩
    refine ⟨_, rfl, ?_⟩
    have n0_ := Aside0.mk (Kd.R_lower ho0 (below_size belS))
    have n1_ := Aside0.mk (blk_below (blk_up BKBD.out) hb)
    have n2_ := Aside0.mk (blk_below (blk_up BKBE.out) hb)
    have n3_ := Aside0.mk (below_step belS hb)
    clear BKBD
    clear BKBE
    clear HB
    have HOBL := n0_
    have BKBD := n1_
    have BKBE := n2_
    have HB := n3_
    clear n0_ n1_ n2_ n3_
    (try clear hb)
    (try clear hb2)
    (try clear hk)
    (try clear hi)
    (try clear ho0)
    refine hK.out _ _ ⟨(blk_cell BKBD.out 0).trans rfl, (blk_cell BKBD.out 1).trans rfl, (blk_cell BKBD.out 2).trans rfl, (blk_cell BKBD.out 3).trans rfl, (blk_cell BKBE.out 0).trans rfl, (blk_cell BKBE.out 1).trans rfl⟩ (fun hHeld => ?_)
    clear hK K
    refine norm_ (a' := ?_) ?_ ?_
    rotate_left
    ·show Act.put _ (some 23) _ = _
     simp only [Act.put, sA_, sB_, sC_, i64_w, i32_w]
     rfl
    refine two_ (i := 3) (j := 8) (Ni := some 25) (Nj := some 6) bLawsFnExactAddJump_6 bLawsFnExactAddJump_7 rfl rfl rfl rfl (two_of HT_.out (by kernel_rfl)) (by decide) (by decide) (fun K hK => ?_) (fun K hK => ?_)
    ·skip
     refine goes_ Try.func106 (by kernel_rfl) rfl #[.agg #[.int .i64 a1_0, .int .i64 a1_1]] (by rfl) rfl rfl argS ?_
     with_reducible refine (laws_toJump.calls a1_0 a1_1 tBM tBN _ A11.out).mono ?_
     rintro e w24 ⟨rfl, hb⟩
     refine ⟨_, rfl, ?_⟩
     have n0_ := Aside0.mk (Kd.R_below (Kd.R_up HOBL.out) hb)
     have n1_ := Aside0.mk (blk_below (blk_up BKBD.out) hb)
     have n2_ := Aside0.mk (blk_below (blk_up BKBE.out) hb)
     have n3_ := Aside0.mk (below_step belS hb)
     clear HOBL
     clear BKBD
     clear BKBE
     clear HB
     have HOBL := n0_
     have BKBD := n1_
     have BKBE := n2_
     have HB := n3_
     clear n0_ n1_ n2_ n3_
     (try clear hb)
     (try clear hb2)
     (try clear hk)
     (try clear hi)
     obtain ⟨Ao25, co25, eo25⟩ := Kd.R_slice HOBL.out
     (first | subst eo25 | (injection eo25 with f1_ f2_ f3_; have f4_ := f1_.symm; have f5_ := f3_.symm; clear f1_ f2_ f3_; subst f4_; subst f5_))
     refine hK.out _ _ ⟨(blk_cell BKBD.out 0).trans rfl, (blk_cell BKBD.out 1).trans rfl, (blk_cell BKBD.out 2).trans rfl, (blk_cell BKBD.out 3).trans rfl, (blk_cell BKBE.out 0).trans rfl, (blk_cell BKBE.out 1).trans rfl⟩ (fun hHeld => ?_)
     clear hK K
     refine norm_ (a' := ?_) ?_ ?_
     rotate_left
     ·show Act.put _ (some 25) _ = _
      simp only [Act.put, sA_, sB_, sC_, i64_w, i32_w]
      rfl
     refine two_ (i := 4) (j := 8) (Ni := some 26) (Nj := some 6) bLawsFnExactAddJump_8 bLawsFnExactAddJump_9 rfl rfl rfl rfl (two_of HT_.out (by kernel_rfl)) (by decide) (by decide) (fun K hK => ?_) (fun K hK => ?_)
     ·skip
      refine goes_ Try.func105 (by kernel_rfl) rfl #[.agg #[.int .i64 tBG, .int .i64 tBH, .int .i64 tBI, .slice Ao25 tBJ.length co25], .agg #[.int .i64 tBM, .int .i64 tBN]] (by rfl) rfl rfl argS ?_
      with_reducible refine (spec_AddJump.calls k tBG tBH tBI _ _ tBJ tBM tBN tBO tBP tBQ tBR tBU _ ?side1 ?side2 A12.out).mono ?_
      (case side1 => exact Kd.C_up (Kd.R_reads' HOBL.out).2.2)
      (case side2 => exact (Kd.R_reads' HOBL.out).2.1)
      rintro e w26 ⟨vBS, rfl, ho0, hb⟩
      refine ⟨_, rfl, ?_⟩
      have n0_ := Aside0.mk (Kd.R_elder' (Kd.R_up HOBL.out) (Kd.R_base ho0) hb)
      have n1_ := Aside0.mk (Kd.R_lower (Kd.R_new' ho0 (Kd.R_lt (Kd.R_up HOBL.out))) (below_size belS))
      have n2_ := Aside0.mk (blk_below (blk_up BKBD.out) hb)
      have n3_ := Aside0.mk (blk_below (blk_up BKBE.out) hb)
      have n4_ := Aside0.mk (below_step belS hb)
      clear HOBL
      clear BKBD
      clear BKBE
      clear HB
      have HOBL := n0_
      have HOBT := n1_
      have BKBD := n2_
      have BKBE := n3_
      have HB := n4_
      clear n0_ n1_ n2_ n3_ n4_
      (try clear hb)
      (try clear hb2)
      (try clear hk)
      (try clear hi)
      (try clear ho0)
      refine hK.out _ _ ⟨(blk_cell BKBD.out 0).trans rfl, (blk_cell BKBD.out 1).trans rfl, (blk_cell BKBD.out 2).trans rfl, (blk_cell BKBD.out 3).trans rfl, (blk_cell BKBE.out 0).trans rfl, (blk_cell BKBE.out 1).trans rfl⟩ (fun hHeld => ?_)
      clear hK K
      refine norm_ (a' := ?_) ?_ ?_
      rotate_left
      ·show Act.put _ (some 26) _ = _
       simp only [Act.put, sA_, sB_, sC_, i64_w, i32_w]
       rfl
      refine pure_ (i := 5) (N := some 21) (v := ?_) (a' := ?_) bLawsFnExactAddJump_10 rfl rfl (any_of HT_.out (by kernel_rfl)) (fun _ _ _ h => h) (Or.inl ⟨by rfl, ?_⟩) ?_ ?_
      rotate_left
      ·intro w'
       go_simp
       with_reducible rfl
      rotate_left
      ·simp only [Act.put, sA_, sB_, sC_, i64_w, i32_w]
       rfl
      refine pure_ (i := 6) (N := some 27) (v := ?_) (a' := ?_) bLawsFnExactAddJump_11 rfl rfl (any_of HT_.out (by kernel_rfl)) (fun _ _ _ h => h) (Or.inl ⟨by rfl, ?_⟩) ?_ ?_
      rotate_left
      ·intro w'
       go_simp
       with_reducible rfl
      rotate_left
      ·simp only [Act.put, sA_, sB_, sC_, i64_w, i32_w]
       rfl
      refine pure_ (i := 7) (N := some 28) (v := ?_) (a' := ?_) bLawsFnExactAddJump_12 rfl rfl (any_of HT_.out (by kernel_rfl)) (fun _ _ _ h => h) (Or.inl ⟨by rfl, ?_⟩) ?_ ?_
      rotate_left
      ·intro w'
       go_simp
       with_reducible rfl
      rotate_left
      ·simp only [Act.put, sA_, sB_, sC_, i64_w, i32_w]
       rfl
      refine one_ (i := 8) (N := some 6) bLawsFnExactAddJump_3 rfl rfl (one_of HT_.out (by kernel_rfl)) (by decide) (fun K hK => ?_)
      refine box_step ?hg (N := 6) ?hd (cs := #[.int .i64 0, .int .i64 0, .int .i64 0, .slice none 0 0]) (t := 32) ?hr ?_; (case hd => rfl); (case hg => rfl); (case hr => first | (go_simp; done) | (go_simp; rfl))
      intro gbBV hg w27 hbox hb
      have n0_ := Aside0.mk (Kd.R_below (Kd.R_up HOBL.out) hb)
      have n1_ := Aside0.mk (Kd.R_below (Kd.R_up HOBT.out) hb)
      have n2_ := Aside0.mk (blk_below (blk_up BKBD.out) hb)
      have n3_ := Aside0.mk (blk_below (blk_up BKBE.out) hb)
      have n4_ := Aside0.mk (below_step belS hb)
      have n5_ := Aside0.mk (hbox)
      have n6_ := Aside0.mk (geS hg : w.heap.size ≤ gbBV)
      have n7_ := Aside0.mk (geS hg : w.heap.size ≤ gbBV)
      have n8_ := Aside0.mk ((by rw [hg]; exact Nat.ne_of_lt (blk_lt (blk_up BKBD.out)) : gbBD ≠ gbBV))
      have n9_ := Aside0.mk ((by rw [hg]; exact Nat.ne_of_gt (blk_lt (blk_up BKBD.out)) : gbBV ≠ gbBD))
      have n10_ := Aside0.mk ((by rw [hg]; exact Nat.ne_of_lt (blk_lt (blk_up BKBE.out)) : gbBE ≠ gbBV))
      have n11_ := Aside0.mk ((by rw [hg]; exact Nat.ne_of_gt (blk_lt (blk_up BKBE.out)) : gbBV ≠ gbBE))
      clear HOBL
      clear HOBT
      clear BKBD
      clear BKBE
      clear HB
      have HOBL := n0_
      have HOBT := n1_
      have BKBD := n2_
      have BKBE := n3_
      have HB := n4_
      have BKBV := n5_
      have GWBV := n6_
      have GEBV := n7_
      have NBBD_BV := n8_
      have NBBV_BD := n9_
      have NBBE_BV := n10_
      have NBBV_BE := n11_
      clear n0_ n1_ n2_ n3_ n4_ n5_ n6_ n7_ n8_ n9_ n10_ n11_
      clear hb hbox hg
      refine hK.out _ _ ⟨(blk_cell BKBD.out 0).trans rfl, (blk_cell BKBD.out 1).trans rfl, (blk_cell BKBD.out 2).trans rfl, (blk_cell BKBD.out 3).trans rfl, (blk_cell BKBE.out 0).trans rfl, (blk_cell BKBE.out 1).trans rfl⟩ (fun hHeld => ?_)
      clear hK K
      refine norm_ (a' := ?_) ?_ ?_
      rotate_left
      ·show Act.put _ (some 6) _ = _
       simp only [Act.put, sA_, sB_, sC_, i64_w, i32_w]
       rfl
      exact norm_ (by simp only [putAll, Act.put, sA_, sB_, sC_]) (hCont (.slice Ao25 tBJ.length co25, vBS, gbBV) _ ⟨hHeld, (by (with_reducible repeat (first | apply Kd.R_alloc | apply Kd.R_drewN | apply Kd.R_drew)); exact Kd.R_mono HOBL.out (fun _ hk => hk.2)), (by (with_reducible repeat (first | apply Kd.R_alloc | apply Kd.R_drewN | apply Kd.R_drew)); exact Kd.R_mono HOBT.out (fun _ hk => hk.2)), (blk_up BKBD.out), (blk_up BKBE.out), (blk_up BKBV.out), GWBV.out, GEBV.out, NBBD_BV.out, NBBV_BD.out, NBBE_BV.out, NBBV_BE.out, belS⟩)
     ·skip
      refine box_step ?hg (N := 6) ?hd (cs := #[.int .i64 0, .int .i64 0, .int .i64 0, .slice none 0 0]) (t := 32) ?hr ?_; (case hd => rfl); (case hg => rfl); (case hr => first | (go_simp; done) | (go_simp; rfl))
      intro gbBV hg w25 hbox hb
      have n0_ := Aside0.mk (Kd.R_below (Kd.R_up HOBL.out) hb)
      have n1_ := Aside0.mk (blk_below (blk_up BKBD.out) hb)
      have n2_ := Aside0.mk (blk_below (blk_up BKBE.out) hb)
      have n3_ := Aside0.mk (below_step belS hb)
      have n4_ := Aside0.mk (hbox)
      have n5_ := Aside0.mk (geS hg : w.heap.size ≤ gbBV)
      have n6_ := Aside0.mk (geS hg : w.heap.size ≤ gbBV)
      have n7_ := Aside0.mk ((by rw [hg]; exact Nat.ne_of_lt (blk_lt (blk_up BKBD.out)) : gbBD ≠ gbBV))
      have n8_ := Aside0.mk ((by rw [hg]; exact Nat.ne_of_gt (blk_lt (blk_up BKBD.out)) : gbBV ≠ gbBD))
      have n9_ := Aside0.mk ((by rw [hg]; exact Nat.ne_of_lt (blk_lt (blk_up BKBE.out)) : gbBE ≠ gbBV))
      have n10_ := Aside0.mk ((by rw [hg]; exact Nat.ne_of_gt (blk_lt (blk_up BKBE.out)) : gbBV ≠ gbBE))
      clear HOBL
      clear BKBD
      clear BKBE
      clear HB
      have HOBL := n0_
      have BKBD := n1_
      have BKBE := n2_
      have HB := n3_
      have BKBV := n4_
      have GWBV := n5_
      have GEBV := n6_
      have NBBD_BV := n7_
      have NBBV_BD := n8_
      have NBBE_BV := n9_
      have NBBV_BE := n10_
      clear n0_ n1_ n2_ n3_ n4_ n5_ n6_ n7_ n8_ n9_ n10_
      clear hb hbox hg
      obtain ⟨Ao26, co26, eo26⟩ := Kd.R_slice HOBL.out
      (first | subst eo26 | (injection eo26 with f1_ f2_ f3_; have f4_ := f1_.symm; have f5_ := f3_.symm; clear f1_ f2_ f3_; subst f4_; subst f5_))
      refine hK.out _ _ ⟨(blk_cell BKBD.out 0).trans rfl, (blk_cell BKBD.out 1).trans rfl, (blk_cell BKBD.out 2).trans rfl, (blk_cell BKBD.out 3).trans rfl, (blk_cell BKBE.out 0).trans rfl, (blk_cell BKBE.out 1).trans rfl⟩ (fun hHeld => ?_)
      clear hK K
      refine norm_ (a' := ?_) ?_ ?_
      rotate_left
      ·show Act.put _ (some 6) _ = _
       simp only [Act.put, sA_, sB_, sC_, i64_w, i32_w]
       rfl
      refine one_ (i := 4) (N := some 26) bLawsFnExactAddJump_13 rfl rfl (one_of HT_.out (by kernel_rfl)) (by decide) (fun K hK => ?_)
      refine goes_ Try.func105 (by kernel_rfl) rfl #[.agg #[.int .i64 tBG, .int .i64 tBH, .int .i64 tBI, .slice Ao26 tBJ.length co26], .agg #[.int .i64 tBM, .int .i64 tBN]] (by rfl) rfl rfl argS ?_
      with_reducible refine (spec_AddJump.calls k tBG tBH tBI _ _ tBJ tBM tBN tBO tBP tBQ tBR tBU _ ?side1 ?side2 A12.out).mono ?_
      (case side1 => exact Kd.C_up (Kd.R_reads' HOBL.out).2.2)
      (case side2 => exact (Kd.R_reads' HOBL.out).2.1)
      rintro e w27 ⟨vBS, rfl, ho0, hb⟩
      refine ⟨_, rfl, ?_⟩
      have n0_ := Aside0.mk (Kd.R_elder' (Kd.R_up HOBL.out) (Kd.R_base ho0) hb)
      have n1_ := Aside0.mk (Kd.R_lower (Kd.R_new' ho0 (Kd.R_lt (Kd.R_up HOBL.out))) (below_size belS))
      have n2_ := Aside0.mk (blk_below (blk_up BKBD.out) hb)
      have n3_ := Aside0.mk (blk_below (blk_up BKBE.out) hb)
      have n4_ := Aside0.mk (blk_below (blk_up BKBV.out) hb)
      have n5_ := Aside0.mk (below_step belS hb)
      clear HOBL
      clear BKBD
      clear BKBE
      clear BKBV
      clear HB
      have HOBL := n0_
      have HOBT := n1_
      have BKBD := n2_
      have BKBE := n3_
      have BKBV := n4_
      have HB := n5_
      clear n0_ n1_ n2_ n3_ n4_ n5_
      (try clear hb)
      (try clear hb2)
      (try clear hk)
      (try clear hi)
      (try clear ho0)
      refine hK.out _ _ ⟨(blk_cell BKBD.out 0).trans rfl, (blk_cell BKBD.out 1).trans rfl, (blk_cell BKBD.out 2).trans rfl, (blk_cell BKBD.out 3).trans rfl, (blk_cell BKBE.out 0).trans rfl, (blk_cell BKBE.out 1).trans rfl⟩ (fun hHeld => ?_)
      clear hK K
      refine norm_ (a' := ?_) ?_ ?_
      rotate_left
      ·show Act.put _ (some 26) _ = _
       simp only [Act.put, sA_, sB_, sC_, i64_w, i32_w]
       rfl
      refine pure_ (i := 5) (N := some 21) (v := ?_) (a' := ?_) bLawsFnExactAddJump_14 rfl rfl (any_of HT_.out (by kernel_rfl)) (fun _ _ _ h => h) (Or.inl ⟨by rfl, ?_⟩) ?_ ?_
      rotate_left
      ·intro w'
       go_simp
       with_reducible rfl
      rotate_left
      ·simp only [Act.put, sA_, sB_, sC_, i64_w, i32_w]
       rfl
      refine pure_ (i := 6) (N := some 27) (v := ?_) (a' := ?_) bLawsFnExactAddJump_15 rfl rfl (any_of HT_.out (by kernel_rfl)) (fun _ _ _ h => h) (Or.inl ⟨by rfl, ?_⟩) ?_ ?_
      rotate_left
      ·intro w'
       go_simp
       with_reducible rfl
      rotate_left
      ·simp only [Act.put, sA_, sB_, sC_, i64_w, i32_w]
       rfl
      refine pure_ (i := 7) (N := some 28) (v := ?_) (a' := ?_) bLawsFnExactAddJump_3 rfl rfl (any_of HT_.out (by kernel_rfl)) (fun _ _ _ h => h) (Or.inl ⟨by rfl, ?_⟩) ?_ ?_
      rotate_left
      ·intro w'
       go_simp
       with_reducible rfl
      rotate_left
      ·simp only [Act.put, sA_, sB_, sC_, i64_w, i32_w]
       rfl
      exact norm_ (by simp only [putAll, Act.put, sA_, sB_, sC_]) (hCont (.slice Ao26 tBJ.length co26, vBS, gbBV) _ ⟨hHeld, (by (with_reducible repeat (first | apply Kd.R_alloc | apply Kd.R_drewN | apply Kd.R_drew)); exact Kd.R_mono HOBL.out (fun _ hk => hk.2)), (by (with_reducible repeat (first | apply Kd.R_alloc | apply Kd.R_drewN | apply Kd.R_drew)); exact Kd.R_mono HOBT.out (fun _ hk => hk.2)), (blk_up BKBD.out), (blk_up BKBE.out), (blk_up BKBV.out), GWBV.out, GEBV.out, NBBD_BV.out, NBBV_BD.out, NBBE_BV.out, NBBV_BE.out, belS⟩)
    ·skip
     refine box_step ?hg (N := 6) ?hd (cs := #[.int .i64 0, .int .i64 0, .int .i64 0, .slice none 0 0]) (t := 32) ?hr ?_; (case hd => rfl); (case hg => rfl); (case hr => first | (go_simp; done) | (go_simp; rfl))
     intro gbBV hg w24 hbox hb
     have n0_ := Aside0.mk (Kd.R_below (Kd.R_up HOBL.out) hb)
     have n1_ := Aside0.mk (blk_below (blk_up BKBD.out) hb)
     have n2_ := Aside0.mk (blk_below (blk_up BKBE.out) hb)
     have n3_ := Aside0.mk (below_step belS hb)
     have n4_ := Aside0.mk (hbox)
     have n5_ := Aside0.mk (geS hg : w.heap.size ≤ gbBV)
     have n6_ := Aside0.mk (geS hg : w.heap.size ≤ gbBV)
     have n7_ := Aside0.mk ((by rw [hg]; exact Nat.ne_of_lt (blk_lt (blk_up BKBD.out)) : gbBD ≠ gbBV))
     have n8_ := Aside0.mk ((by rw [hg]; exact Nat.ne_of_gt (blk_lt (blk_up BKBD.out)) : gbBV ≠ gbBD))
     have n9_ := Aside0.mk ((by rw [hg]; exact Nat.ne_of_lt (blk_lt (blk_up BKBE.out)) : gbBE ≠ gbBV))
     have n10_ := Aside0.mk ((by rw [hg]; exact Nat.ne_of_gt (blk_lt (blk_up BKBE.out)) : gbBV ≠ gbBE))
     clear HOBL
     clear BKBD
     clear BKBE
     clear HB
     have HOBL := n0_
     have BKBD := n1_
     have BKBE := n2_
     have HB := n3_
     have BKBV := n4_
     have GWBV := n5_
     have GEBV := n6_
     have NBBD_BV := n7_
     have NBBV_BD := n8_
     have NBBE_BV := n9_
     have NBBV_BE := n10_
     clear n0_ n1_ n2_ n3_ n4_ n5_ n6_ n7_ n8_ n9_ n10_
     clear hb hbox hg
     refine hK.out _ _ ⟨(blk_cell BKBD.out 0).trans rfl, (blk_cell BKBD.out 1).trans rfl, (blk_cell BKBD.out 2).trans rfl, (blk_cell BKBD.out 3).trans rfl, (blk_cell BKBE.out 0).trans rfl, (blk_cell BKBE.out 1).trans rfl⟩ (fun hHeld => ?_)
     clear hK K
     refine norm_ (a' := ?_) ?_ ?_
     rotate_left
     ·show Act.put _ (some 6) _ = _
      simp only [Act.put, sA_, sB_, sC_, i64_w, i32_w]
      rfl
     refine one_ (i := 3) (N := some 25) bLawsFnExactAddJump_9 rfl rfl (one_of HT_.out (by kernel_rfl)) (by decide) (fun K hK => ?_)
     refine goes_ Try.func106 (by kernel_rfl) rfl #[.agg #[.int .i64 a1_0, .int .i64 a1_1]] (by rfl) rfl rfl argS ?_
     with_reducible refine (laws_toJump.calls a1_0 a1_1 tBM tBN _ A11.out).mono ?_
     rintro e w25 ⟨rfl, hb⟩
     refine ⟨_, rfl, ?_⟩
     have n0_ := Aside0.mk (Kd.R_below (Kd.R_up HOBL.out) hb)
     have n1_ := Aside0.mk (blk_below (blk_up BKBD.out) hb)
     have n2_ := Aside0.mk (blk_below (blk_up BKBE.out) hb)
     have n3_ := Aside0.mk (blk_below (blk_up BKBV.out) hb)
     have n4_ := Aside0.mk (below_step belS hb)
     clear HOBL
     clear BKBD
     clear BKBE
     clear BKBV
     clear HB
     have HOBL := n0_
     have BKBD := n1_
     have BKBE := n2_
     have BKBV := n3_
     have HB := n4_
     clear n0_ n1_ n2_ n3_ n4_
     (try clear hb)
     (try clear hb2)
     (try clear hk)
     (try clear hi)
     obtain ⟨Ao26, co26, eo26⟩ := Kd.R_slice HOBL.out
     (first | subst eo26 | (injection eo26 with f1_ f2_ f3_; have f4_ := f1_.symm; have f5_ := f3_.symm; clear f1_ f2_ f3_; subst f4_; subst f5_))
     refine hK.out _ _ ⟨(blk_cell BKBD.out 0).trans rfl, (blk_cell BKBD.out 1).trans rfl, (blk_cell BKBD.out 2).trans rfl, (blk_cell BKBD.out 3).trans rfl, (blk_cell BKBE.out 0).trans rfl, (blk_cell BKBE.out 1).trans rfl⟩ (fun hHeld => ?_)
     clear hK K
     refine norm_ (a' := ?_) ?_ ?_
     rotate_left
     ·show Act.put _ (some 25) _ = _
      simp only [Act.put, sA_, sB_, sC_, i64_w, i32_w]
      rfl
     refine one_ (i := 4) (N := some 26) bLawsFnExactAddJump_13 rfl rfl (one_of HT_.out (by kernel_rfl)) (by decide) (fun K hK => ?_)
     refine goes_ Try.func105 (by kernel_rfl) rfl #[.agg #[.int .i64 tBG, .int .i64 tBH, .int .i64 tBI, .slice Ao26 tBJ.length co26], .agg #[.int .i64 tBM, .int .i64 tBN]] (by rfl) rfl rfl argS ?_
     with_reducible refine (spec_AddJump.calls k tBG tBH tBI _ _ tBJ tBM tBN tBO tBP tBQ tBR tBU _ ?side1 ?side2 A12.out).mono ?_
     (case side1 => exact Kd.C_up (Kd.R_reads' HOBL.out).2.2)
     (case side2 => exact (Kd.R_reads' HOBL.out).2.1)
     rintro e w27 ⟨vBS, rfl, ho0, hb⟩
     refine ⟨_, rfl, ?_⟩
     have n0_ := Aside0.mk (Kd.R_elder' (Kd.R_up HOBL.out) (Kd.R_base ho0) hb)
     have n1_ := Aside0.mk (Kd.R_lower (Kd.R_new' ho0 (Kd.R_lt (Kd.R_up HOBL.out))) (below_size belS))
     have n2_ := Aside0.mk (blk_below (blk_up BKBD.out) hb)
     have n3_ := Aside0.mk (blk_below (blk_up BKBE.out) hb)
     have n4_ := Aside0.mk (blk_below (blk_up BKBV.out) hb)
     have n5_ := Aside0.mk (below_step belS hb)
     clear HOBL
     clear BKBD
     clear BKBE
     clear BKBV
     clear HB
     have HOBL := n0_
     have HOBT := n1_
     have BKBD := n2_
     have BKBE := n3_
     have BKBV := n4_
     have HB := n5_
     clear n0_ n1_ n2_ n3_ n4_ n5_
     (try clear hb)
     (try clear hb2)
     (try clear hk)
     (try clear hi)
     (try clear ho0)
     refine hK.out _ _ ⟨(blk_cell BKBD.out 0).trans rfl, (blk_cell BKBD.out 1).trans rfl, (blk_cell BKBD.out 2).trans rfl, (blk_cell BKBD.out 3).trans rfl, (blk_cell BKBE.out 0).trans rfl, (blk_cell BKBE.out 1).trans rfl⟩ (fun hHeld => ?_)
     clear hK K
     refine norm_ (a' := ?_) ?_ ?_
     rotate_left
     ·show Act.put _ (some 26) _ = _
      simp only [Act.put, sA_, sB_, sC_, i64_w, i32_w]
      rfl
     refine pure_ (i := 5) (N := some 21) (v := ?_) (a' := ?_) bLawsFnExactAddJump_14 rfl rfl (any_of HT_.out (by kernel_rfl)) (fun _ _ _ h => h) (Or.inl ⟨by rfl, ?_⟩) ?_ ?_
     rotate_left
     ·intro w'
      go_simp
      with_reducible rfl
     rotate_left
     ·simp only [Act.put, sA_, sB_, sC_, i64_w, i32_w]
      rfl
     refine pure_ (i := 6) (N := some 27) (v := ?_) (a' := ?_) bLawsFnExactAddJump_15 rfl rfl (any_of HT_.out (by kernel_rfl)) (fun _ _ _ h => h) (Or.inl ⟨by rfl, ?_⟩) ?_ ?_
     rotate_left
     ·intro w'
      go_simp
      with_reducible rfl
     rotate_left
     ·simp only [Act.put, sA_, sB_, sC_, i64_w, i32_w]
      rfl
     refine pure_ (i := 7) (N := some 28) (v := ?_) (a' := ?_) bLawsFnExactAddJump_3 rfl rfl (any_of HT_.out (by kernel_rfl)) (fun _ _ _ h => h) (Or.inl ⟨by rfl, ?_⟩) ?_ ?_
     rotate_left
     ·intro w'
      go_simp
      with_reducible rfl
     rotate_left
     ·simp only [Act.put, sA_, sB_, sC_, i64_w, i32_w]
      rfl
     exact norm_ (by simp only [putAll, Act.put, sA_, sB_, sC_]) (hCont (.slice Ao26 tBJ.length co26, vBS, gbBV) _ ⟨hHeld, (by (with_reducible repeat (first | apply Kd.R_alloc | apply Kd.R_drewN | apply Kd.R_drew)); exact Kd.R_mono HOBL.out (fun _ hk => hk.2)), (by (with_reducible repeat (first | apply Kd.R_alloc | apply Kd.R_drewN | apply Kd.R_drew)); exact Kd.R_mono HOBT.out (fun _ hk => hk.2)), (blk_up BKBD.out), (blk_up BKBE.out), (blk_up BKBV.out), GWBV.out, GEBV.out, NBBD_BV.out, NBBV_BD.out, NBBE_BV.out, NBBV_BE.out, belS⟩)
   ·skip
    refine box_step ?hg (N := 6) ?hd (cs := #[.int .i64 0, .int .i64 0, .int .i64 0, .slice none 0 0]) (t := 32) ?hr ?_; (case hd => rfl); (case hg => rfl); (case hr => first | (go_simp; done) | (go_simp; rfl))
    intro gbBV hg w23 hbox hb
    have n0_ := Aside0.mk (blk_below (blk_up BKBD.out) hb)
    have n1_ := Aside0.mk (blk_below (blk_up BKBE.out) hb)
    have n2_ := Aside0.mk (below_step belS hb)
    have n3_ := Aside0.mk (hbox)
    have n4_ := Aside0.mk (geS hg : w.heap.size ≤ gbBV)
    have n5_ := Aside0.mk (geS hg : w.heap.size ≤ gbBV)
    have n6_ := Aside0.mk ((by rw [hg]; exact Nat.ne_of_lt (blk_lt (blk_up BKBD.out)) : gbBD ≠ gbBV))
    have n7_ := Aside0.mk ((by rw [hg]; exact Nat.ne_of_gt (blk_lt (blk_up BKBD.out)) : gbBV ≠ gbBD))
    have n8_ := Aside0.mk ((by rw [hg]; exact Nat.ne_of_lt (blk_lt (blk_up BKBE.out)) : gbBE ≠ gbBV))
    have n9_ := Aside0.mk ((by rw [hg]; exact Nat.ne_of_gt (blk_lt (blk_up BKBE.out)) : gbBV ≠ gbBE))
    clear BKBD
    clear BKBE
    clear HB
    have BKBD := n0_
    have BKBE := n1_
    have HB := n2_
    have BKBV := n3_
    have GWBV := n4_
    have GEBV := n5_
    have NBBD_BV := n6_
    have NBBV_BD := n7_
    have NBBE_BV := n8_
    have NBBV_BE := n9_
    clear n0_ n1_ n2_ n3_ n4_ n5_ n6_ n7_ n8_ n9_
    clear hb hbox hg
    refine hK.out _ _ ⟨(blk_cell BKBD.out 0).trans rfl, (blk_cell BKBD.out 1).trans rfl, (blk_cell BKBD.out 2).trans rfl, (blk_cell BKBD.out 3).trans rfl, (blk_cell BKBE.out 0).trans rfl, (blk_cell BKBE.out 1).trans rfl⟩ (fun hHeld => ?_)
    clear hK K
    refine norm_ (a' := ?_) ?_ ?_
    rotate_left
    ·show Act.put _ (some 6) _ = _
     simp only [Act.put, sA_, sB_, sC_, i64_w, i32_w]
     rfl
    refine one_ (i := 1) (N := some 23) bLawsFnExactAddJump_7 rfl rfl (one_of HT_.out (by kernel_rfl)) (by decide) (fun K hK => ?_)
    refine goes_ Try.func39 (by kernel_rfl) rfl #[.agg #[.int .i64 a0_0, .int .i64 a0_1, .int .i64 a0_2, .slice A0_3 l0_3.length c0_3]] (by rfl) rfl rfl argS ?_
    with_reducible refine (laws_toBoard.calls k a0_0 a0_1 a0_2 _ _ l0_3 tBG tBH tBI tBJ _ ?side1 ?side2 A10.out).mono ?_
    (case side1 => exact Kd.C_up (Kd.C_below HR0_3.out HB.out))
    (case side2 => exact HC0_3.out)
    rintro e w24 ⟨vBK, rfl, ho0, hb⟩
    refine ⟨_, rfl, ?_⟩
    have n0_ := Aside0.mk (Kd.R_lower ho0 (below_size belS))
    have n1_ := Aside0.mk (blk_below (blk_up BKBD.out) hb)
    have n2_ := Aside0.mk (blk_below (blk_up BKBE.out) hb)
    have n3_ := Aside0.mk (blk_below (blk_up BKBV.out) hb)
    have n4_ := Aside0.mk (below_step belS hb)
    clear BKBD
    clear BKBE
    clear BKBV
    clear HB
    have HOBL := n0_
    have BKBD := n1_
    have BKBE := n2_
    have BKBV := n3_
    have HB := n4_
    clear n0_ n1_ n2_ n3_ n4_
    (try clear hb)
    (try clear hb2)
    (try clear hk)
    (try clear hi)
    (try clear ho0)
    refine hK.out _ _ ⟨(blk_cell BKBD.out 0).trans rfl, (blk_cell BKBD.out 1).trans rfl, (blk_cell BKBD.out 2).trans rfl, (blk_cell BKBD.out 3).trans rfl, (blk_cell BKBE.out 0).trans rfl, (blk_cell BKBE.out 1).trans rfl⟩ (fun hHeld => ?_)
    clear hK K
    refine norm_ (a' := ?_) ?_ ?_
    rotate_left
    ·show Act.put _ (some 23) _ = _
     simp only [Act.put, sA_, sB_, sC_, i64_w, i32_w]
     rfl
    refine one_ (i := 3) (N := some 25) bLawsFnExactAddJump_9 rfl rfl (one_of HT_.out (by kernel_rfl)) (by decide) (fun K hK => ?_)
    refine goes_ Try.func106 (by kernel_rfl) rfl #[.agg #[.int .i64 a1_0, .int .i64 a1_1]] (by rfl) rfl rfl argS ?_
    with_reducible refine (laws_toJump.calls a1_0 a1_1 tBM tBN _ A11.out).mono ?_
    rintro e w25 ⟨rfl, hb⟩
    refine ⟨_, rfl, ?_⟩
    have n0_ := Aside0.mk (Kd.R_below (Kd.R_up HOBL.out) hb)
    have n1_ := Aside0.mk (blk_below (blk_up BKBD.out) hb)
    have n2_ := Aside0.mk (blk_below (blk_up BKBE.out) hb)
    have n3_ := Aside0.mk (blk_below (blk_up BKBV.out) hb)
    have n4_ := Aside0.mk (below_step belS hb)
    clear HOBL
    clear BKBD
    clear BKBE
    clear BKBV
    clear HB
    have HOBL := n0_
    have BKBD := n1_
    have BKBE := n2_
    have BKBV := n3_
    have HB := n4_
    clear n0_ n1_ n2_ n3_ n4_
    (try clear hb)
    (try clear hb2)
    (try clear hk)
    (try clear hi)
    obtain ⟨Ao26, co26, eo26⟩ := Kd.R_slice HOBL.out
    (first | subst eo26 | (injection eo26 with f1_ f2_ f3_; have f4_ := f1_.symm; have f5_ := f3_.symm; clear f1_ f2_ f3_; subst f4_; subst f5_))
    refine hK.out _ _ ⟨(blk_cell BKBD.out 0).trans rfl, (blk_cell BKBD.out 1).trans rfl, (blk_cell BKBD.out 2).trans rfl, (blk_cell BKBD.out 3).trans rfl, (blk_cell BKBE.out 0).trans rfl, (blk_cell BKBE.out 1).trans rfl⟩ (fun hHeld => ?_)
    clear hK K
    refine norm_ (a' := ?_) ?_ ?_
    rotate_left
    ·show Act.put _ (some 25) _ = _
     simp only [Act.put, sA_, sB_, sC_, i64_w, i32_w]
     rfl
    refine one_ (i := 4) (N := some 26) bLawsFnExactAddJump_13 rfl rfl (one_of HT_.out (by kernel_rfl)) (by decide) (fun K hK => ?_)
    refine goes_ Try.func105 (by kernel_rfl) rfl #[.agg #[.int .i64 tBG, .int .i64 tBH, .int .i64 tBI, .slice Ao26 tBJ.length co26], .agg #[.int .i64 tBM, .int .i64 tBN]] (by rfl) rfl rfl argS ?_
    with_reducible refine (spec_AddJump.calls k tBG tBH tBI _ _ tBJ tBM tBN tBO tBP tBQ tBR tBU _ ?side1 ?side2 A12.out).mono ?_
    (case side1 => exact Kd.C_up (Kd.R_reads' HOBL.out).2.2)
    (case side2 => exact (Kd.R_reads' HOBL.out).2.1)
    rintro e w27 ⟨vBS, rfl, ho0, hb⟩
    refine ⟨_, rfl, ?_⟩
    have n0_ := Aside0.mk (Kd.R_elder' (Kd.R_up HOBL.out) (Kd.R_base ho0) hb)
    have n1_ := Aside0.mk (Kd.R_lower (Kd.R_new' ho0 (Kd.R_lt (Kd.R_up HOBL.out))) (below_size belS))
    have n2_ := Aside0.mk (blk_below (blk_up BKBD.out) hb)
    have n3_ := Aside0.mk (blk_below (blk_up BKBE.out) hb)
    have n4_ := Aside0.mk (blk_below (blk_up BKBV.out) hb)
    have n5_ := Aside0.mk (below_step belS hb)
    clear HOBL
    clear BKBD
    clear BKBE
    clear BKBV
    clear HB
    have HOBL := n0_
    have HOBT := n1_
    have BKBD := n2_
    have BKBE := n3_
    have BKBV := n4_
    have HB := n5_
    clear n0_ n1_ n2_ n3_ n4_ n5_
    (try clear hb)
    (try clear hb2)
    (try clear hk)
    (try clear hi)
    (try clear ho0)
    refine hK.out _ _ ⟨(blk_cell BKBD.out 0).trans rfl, (blk_cell BKBD.out 1).trans rfl, (blk_cell BKBD.out 2).trans rfl, (blk_cell BKBD.out 3).trans rfl, (blk_cell BKBE.out 0).trans rfl, (blk_cell BKBE.out 1).trans rfl⟩ (fun hHeld => ?_)
    clear hK K
    refine norm_ (a' := ?_) ?_ ?_
    rotate_left
    ·show Act.put _ (some 26) _ = _
     simp only [Act.put, sA_, sB_, sC_, i64_w, i32_w]
     rfl
    refine pure_ (i := 5) (N := some 21) (v := ?_) (a' := ?_) bLawsFnExactAddJump_14 rfl rfl (any_of HT_.out (by kernel_rfl)) (fun _ _ _ h => h) (Or.inl ⟨by rfl, ?_⟩) ?_ ?_
    rotate_left
    ·intro w'
     go_simp
     with_reducible rfl
    rotate_left
    ·simp only [Act.put, sA_, sB_, sC_, i64_w, i32_w]
     rfl
    refine pure_ (i := 6) (N := some 27) (v := ?_) (a' := ?_) bLawsFnExactAddJump_15 rfl rfl (any_of HT_.out (by kernel_rfl)) (fun _ _ _ h => h) (Or.inl ⟨by rfl, ?_⟩) ?_ ?_
    rotate_left
    ·intro w'
     go_simp
     with_reducible rfl
    rotate_left
    ·simp only [Act.put, sA_, sB_, sC_, i64_w, i32_w]
     rfl
    refine pure_ (i := 7) (N := some 28) (v := ?_) (a' := ?_) bLawsFnExactAddJump_3 rfl rfl (any_of HT_.out (by kernel_rfl)) (fun _ _ _ h => h) (Or.inl ⟨by rfl, ?_⟩) ?_ ?_
    rotate_left
    ·intro w'
     go_simp
     with_reducible rfl
    rotate_left
    ·simp only [Act.put, sA_, sB_, sC_, i64_w, i32_w]
     rfl
    exact norm_ (by simp only [putAll, Act.put, sA_, sB_, sC_]) (hCont (.slice Ao26 tBJ.length co26, vBS, gbBV) _ ⟨hHeld, (by (with_reducible repeat (first | apply Kd.R_alloc | apply Kd.R_drewN | apply Kd.R_drew)); exact Kd.R_mono HOBL.out (fun _ hk => hk.2)), (by (with_reducible repeat (first | apply Kd.R_alloc | apply Kd.R_drewN | apply Kd.R_drew)); exact Kd.R_mono HOBT.out (fun _ hk => hk.2)), (blk_up BKBD.out), (blk_up BKBE.out), (blk_up BKBV.out), GWBV.out, GEBV.out, NBBD_BV.out, NBBV_BD.out, NBBE_BV.out, NBBV_BE.out, belS⟩)
  rintro ⟨vBK, vBS, gbBV⟩ w28 ⟨hS_, h0_, h1_, h2_, h3_, h4_, h5_, h6_, h7_, h8_, h9_, h10_, h11_⟩
  have n0_ : Aside0 (Kd.R k27 27 w28 w.heap.size (fun k_ => some k_ ≠ (vBS : Value).ownBlock) vBK tBJ) := ⟨h0_⟩
  have n1_ : Aside0 (Kd.R k27 27 w28 w.heap.size (fun k_ => some k_ ≠ (vBK : Value).ownBlock) vBS tBR) := ⟨h1_⟩
  have n2_ : Aside0 (w28.heap[gbBD]? = some (.cells #[.int .i64 a0_0, .int .i64 a0_1, .int .i64 a0_2, .slice A0_3 l0_3.length c0_3] 24 (0, 0))) := ⟨h2_⟩
  have n3_ : Aside0 (w28.heap[gbBE]? = some (.cells #[.int .i64 a1_0, .int .i64 a1_1] 82 (0, 0))) := ⟨h3_⟩
  have n4_ : Aside0 (w28.heap[gbBV]? = some (.cells #[.int .i64 0, .int .i64 0, .int .i64 0, .slice none 0 0] 32 (0, 0))) := ⟨h4_⟩
  have n5_ : Aside0 (w.heap.size ≤ gbBV) := ⟨h5_⟩
  have n6_ : Aside0 (w.heap.size ≤ gbBV) := ⟨h6_⟩
  have n7_ : Aside0 (gbBD ≠ gbBV) := ⟨h7_⟩
  have n8_ : Aside0 (gbBV ≠ gbBD) := ⟨h8_⟩
  have n9_ : Aside0 (gbBE ≠ gbBV) := ⟨h9_⟩
  have n10_ : Aside0 (gbBV ≠ gbBE) := ⟨h10_⟩
  have n11_ : Aside0 (Below w.heap.size w w28) := ⟨h11_⟩
  clear BKBD
  clear BKBE
  clear HB
  clear h0_ h1_ h2_ h3_ h4_ h5_ h6_ h7_ h8_ h9_ h10_ h11_
  have HOBL := n0_
  have HOBT := n1_
  have BKBD := n2_
  have BKBE := n3_
  have BKBV := n4_
  have GWBV := n5_
  have GEBV := n6_
  have NBBD_BV := n7_
  have NBBV_BD := n8_
  have NBBE_BV := n9_
  have NBBV_BE := n10_
  have HB := n11_
  clear n0_ n1_ n2_ n3_ n4_ n5_ n6_ n7_ n8_ n9_ n10_ n11_
  have hHeld : w28.cell? ⟨gbBD, 0, none⟩ = some (.int .i64 a0_0) ∧ w28.cell? ⟨gbBD, 1, none⟩ = some (.int .i64 a0_1) ∧ w28.cell? ⟨gbBD, 2, none⟩ = some (.int .i64 a0_2) ∧ w28.cell? ⟨gbBD, 3, none⟩ = some (.slice A0_3 l0_3.length c0_3) ∧ w28.cell? ⟨gbBE, 0, none⟩ = some (.int .i64 a1_0) ∧ w28.cell? ⟨gbBE, 1, none⟩ = some (.int .i64 a1_1) := hS_
  obtain ⟨Ao32, co32, eo32⟩ := Kd.R_slice HOBT.out
  (first | subst eo32 | (injection eo32 with f1_ f2_ f3_; have f4_ := f1_.symm; have f5_ := f3_.symm; clear f1_ f2_ f3_; subst f4_; subst f5_))
  refine norm_ (a' := ?_) ?_ ?_
  rotate_left
  ·simp only [putAll, Act.put, sA_, sB_, sC_]
   rfl
  refine one_ (i := 9) (N := none) bLawsFnExactAddJump_16 rfl rfl (one_of HT_.out (by kernel_rfl)) (by decide) (fun K hK => ?_)
  have hs29 : w28.cell? ⟨gbBV, 0, none⟩ = some (.int .i64 0) := (blk_cell BKBV.out 0).trans rfl
  have hfs29 := blk_frozen BKBV.out 0
  have hns29_0 := NBBD_BV.out
  have hns29_1 := NBBE_BV.out
  have hms29_0 := NBBV_BD.out
  have hms29_1 := NBBV_BE.out
  have hs30 : w28.cell? ⟨gbBV, 1, none⟩ = some (.int .i64 0) := (blk_cell BKBV.out 1).trans rfl
  have hfs30 := blk_frozen BKBV.out 1
  have hns30_0 := NBBD_BV.out
  have hns30_1 := NBBE_BV.out
  have hms30_0 := NBBV_BD.out
  have hms30_1 := NBBV_BE.out
  have hs31 : w28.cell? ⟨gbBV, 2, none⟩ = some (.int .i64 0) := (blk_cell BKBV.out 2).trans rfl
  have hfs31 := blk_frozen BKBV.out 2
  have hns31_0 := NBBD_BV.out
  have hns31_1 := NBBE_BV.out
  have hms31_0 := NBBV_BD.out
  have hms31_1 := NBBV_BE.out
  have hs33 : w28.cell? ⟨gbBV, 3, none⟩ = some (.slice none 0 0) := (blk_cell BKBV.out 3).trans rfl
  have hfs33 := blk_frozen BKBV.out 3
  have hns33_0 := NBBD_BV.out
  have hns33_1 := NBBE_BV.out
  have hms33_0 := NBBV_BD.out
  have hms33_1 := NBBV_BE.out
  refine skip_ (w1 := ?_) (by rfl) rfl ?_ ?_
  rotate_left
  ·go_simp
   rfl
  refine hK.out _ _ ⟨((cell_far (p := ⟨gbBV, _, none⟩) NBBD_BV.out _).trans (((cell_far (p := ⟨gbBV, _, none⟩) NBBD_BV.out _).trans (((cell_far (p := ⟨gbBV, _, none⟩) NBBD_BV.out _).trans (((cell_far (p := ⟨gbBV, _, none⟩) NBBD_BV.out _).trans (hHeld.1)))))))), ((cell_far (p := ⟨gbBV, _, none⟩) NBBD_BV.out _).trans (((cell_far (p := ⟨gbBV, _, none⟩) NBBD_BV.out _).trans (((cell_far (p := ⟨gbBV, _, none⟩) NBBD_BV.out _).trans (((cell_far (p := ⟨gbBV, _, none⟩) NBBD_BV.out _).trans (hHeld.2.1)))))))), ((cell_far (p := ⟨gbBV, _, none⟩) NBBD_BV.out _).trans (((cell_far (p := ⟨gbBV, _, none⟩) NBBD_BV.out _).trans (((cell_far (p := ⟨gbBV, _, none⟩) NBBD_BV.out _).trans (((cell_far (p := ⟨gbBV, _, none⟩) NBBD_BV.out _).trans (hHeld.2.2.1)))))))), ((cell_far (p := ⟨gbBV, _, none⟩) NBBD_BV.out _).trans (((cell_far (p := ⟨gbBV, _, none⟩) NBBD_BV.out _).trans (((cell_far (p := ⟨gbBV, _, none⟩) NBBD_BV.out _).trans (((cell_far (p := ⟨gbBV, _, none⟩) NBBD_BV.out _).trans (hHeld.2.2.2.1)))))))), ((cell_far (p := ⟨gbBV, _, none⟩) NBBE_BV.out _).trans (((cell_far (p := ⟨gbBV, _, none⟩) NBBE_BV.out _).trans (((cell_far (p := ⟨gbBV, _, none⟩) NBBE_BV.out _).trans (((cell_far (p := ⟨gbBV, _, none⟩) NBBE_BV.out _).trans (hHeld.2.2.2.2.1)))))))), ((cell_far (p := ⟨gbBV, _, none⟩) NBBE_BV.out _).trans (((cell_far (p := ⟨gbBV, _, none⟩) NBBE_BV.out _).trans (((cell_far (p := ⟨gbBV, _, none⟩) NBBE_BV.out _).trans (((cell_far (p := ⟨gbBV, _, none⟩) NBBE_BV.out _).trans (hHeld.2.2.2.2.2))))))))⟩ (fun hHeld => ?_)
  clear hK K
  refine pure_ (i := 10) (N := some 7) (v := ?_) (a' := ?_) bLawsFnExactAddJump_17 rfl rfl (any_of HT_.out (by kernel_rfl)) (fun _ _ _ h => h) (Or.inl ⟨by rfl, ?_⟩) ?_ ?_
  rotate_left
  ·intro w'
   go_simp
   with_reducible rfl
  rotate_left
  ·simp only [Act.put, sA_, sB_, sC_, i64_w, i32_w]
   rfl
  refine done_ (done_of HT_.out (by kernel_rfl)) ?_
  have hnb34 := NBBD_BV.out
  have hnc34 := NBBV_BD.out
  obtain ⟨hcz35_0, hcz35_1, hcz35_2, hcz35_3, hfz35_0, hfz35_1, hfz35_2, hfz35_3⟩ := blk4 BKBD.out
  try go_wp2_with (first | ((with_reducible refine gate_callee (f := 39) rfl ?_); refine goesL_ (some 30) rfl rfl Try.func39 (by kernel_rfl) rfl #[.agg #[.int .i64 a0_0, .int .i64 a0_1, .int .i64 a0_2, .slice A0_3 l0_3.length c0_3]] rfl argS ?_; (with_reducible refine (laws_toBoard.calls k a0_0 a0_1 a0_2 _ _ l0_3 tBW tBX tBY tBZ _ ?side1 ?side2 A13.out).mono ?_); (case side1 => exact Kd.C_below HR0_3.out belS); (case side2 => exact HC0_3.out); rintro e w36 ⟨vC0, rfl, ho0, hb⟩; refine ⟨_, rfl, ?_⟩; have n0_ := Aside0.mk (Kd.R_elder' (by (with_reducible repeat (first | apply Kd.R_alloc | apply Kd.R_drewN | apply Kd.R_drew)); exact (Kd.R_mono (Kd.R_far (p := ⟨gbBV, 3, none⟩) (Kd.R_far (p := ⟨gbBV, 2, none⟩) (Kd.R_far (p := ⟨gbBV, 1, none⟩) (Kd.R_far (p := ⟨gbBV, 0, none⟩) (Kd.R_types HOBL.out BKBV.out (by decide)) (fun _ hk => hk.2) (.int .i64 tBO)) (fun _ hk => hk.2) (.int .i64 tBP)) (fun _ hk => hk.2) (.int .i64 tBQ)) (fun _ hk => hk.2) (.slice Ao32 tBR.length co32)) (fun _ h_ => h_.1))) (Kd.R_base ho0) hb); have n1_ := Aside0.mk (Kd.R_elder' (by (with_reducible repeat (first | apply Kd.R_alloc | apply Kd.R_drewN | apply Kd.R_drew)); exact (Kd.R_mono (Kd.R_far (p := ⟨gbBV, 3, none⟩) (Kd.R_far (p := ⟨gbBV, 2, none⟩) (Kd.R_far (p := ⟨gbBV, 1, none⟩) (Kd.R_far (p := ⟨gbBV, 0, none⟩) (Kd.R_types HOBT.out BKBV.out (by decide)) (fun _ hk => hk.2) (.int .i64 tBO)) (fun _ hk => hk.2) (.int .i64 tBP)) (fun _ hk => hk.2) (.int .i64 tBQ)) (fun _ hk => hk.2) (.slice Ao32 tBR.length co32)) (fun _ h_ => h_.1))) (Kd.R_base ho0) hb); have n2_ := Aside0.mk (Kd.R_lower (Kd.R_new' (Kd.R_new' ho0 (Kd.R_lt (by (with_reducible repeat (first | apply Kd.R_alloc | apply Kd.R_drewN | apply Kd.R_drew)); exact (Kd.R_mono (Kd.R_far (p := ⟨gbBV, 3, none⟩) (Kd.R_far (p := ⟨gbBV, 2, none⟩) (Kd.R_far (p := ⟨gbBV, 1, none⟩) (Kd.R_far (p := ⟨gbBV, 0, none⟩) (Kd.R_types HOBL.out BKBV.out (by decide)) (fun _ hk => hk.2) (.int .i64 tBO)) (fun _ hk => hk.2) (.int .i64 tBP)) (fun _ hk => hk.2) (.int .i64 tBQ)) (fun _ hk => hk.2) (.slice Ao32 tBR.length co32)) (fun _ h_ => h_.1))))) (Kd.R_lt (by (with_reducible repeat (first | apply Kd.R_alloc | apply Kd.R_drewN | apply Kd.R_drew)); exact (Kd.R_mono (Kd.R_far (p := ⟨gbBV, 3, none⟩) (Kd.R_far (p := ⟨gbBV, 2, none⟩) (Kd.R_far (p := ⟨gbBV, 1, none⟩) (Kd.R_far (p := ⟨gbBV, 0, none⟩) (Kd.R_types HOBT.out BKBV.out (by decide)) (fun _ hk => hk.2) (.int .i64 tBO)) (fun _ hk => hk.2) (.int .i64 tBP)) (fun _ hk => hk.2) (.int .i64 tBQ)) (fun _ hk => hk.2) (.slice Ao32 tBR.length co32)) (fun _ h_ => h_.1))))) (below_size belS)); have n3_ := Aside0.mk (blk_below (g := gbBD) (o := .cells #[.int .i64 a0_0, .int .i64 a0_1, .int .i64 a0_2, .slice A0_3 l0_3.length c0_3] 24 (0, 0)) (by (with_reducible repeat (first | refine blk_drewN ?_ _ | refine blk_drew ?_ | refine blk_alloc ?_ _)); refine blk_farU ?_ NBBD_BV.out _; refine blk_farU ?_ NBBD_BV.out _; refine blk_farU ?_ NBBD_BV.out _; refine blk_farU ?_ NBBD_BV.out _; exact BKBD.out) hb); have n4_ := Aside0.mk (blk_below (g := gbBE) (o := .cells #[.int .i64 a1_0, .int .i64 a1_1] 82 (0, 0)) (by (with_reducible repeat (first | refine blk_drewN ?_ _ | refine blk_drew ?_ | refine blk_alloc ?_ _)); refine blk_farU ?_ NBBE_BV.out _; refine blk_farU ?_ NBBE_BV.out _; refine blk_farU ?_ NBBE_BV.out _; refine blk_farU ?_ NBBE_BV.out _; exact BKBE.out) hb); have n5_ := Aside0.mk (blk_below (g := gbBV) (o := .cells #[.int .i64 tBO, .int .i64 tBP, .int .i64 tBQ, .slice Ao32 tBR.length co32] 32 (0, 0)) (by (with_reducible repeat (first | refine blk_drewN ?_ _ | refine blk_drew ?_ | refine blk_alloc ?_ _)); refine blk_put (cs := #[.int .i64 tBO, .int .i64 tBP, .int .i64 tBQ, .slice none 0 0]) ?_ 3 _ rfl; refine blk_put (cs := #[.int .i64 tBO, .int .i64 tBP, .int .i64 0, .slice none 0 0]) ?_ 2 _ rfl; refine blk_put (cs := #[.int .i64 tBO, .int .i64 0, .int .i64 0, .slice none 0 0]) ?_ 1 _ rfl; refine blk_putU (cs := #[.int .i64 0, .int .i64 0, .int .i64 0, .slice none 0 0]) ?_ 0 _ rfl; exact BKBV.out) hb); have n6_ := Aside0.mk (below_step belS hb); clear HOBL HOBT BKBD BKBE BKBV HB; revert n0_ n1_ n2_ n3_ n4_ n5_ n6_; intro HOBL HOBT HOC1 BKBD BKBE BKBV HB; (try clear hb); (try clear hk); (try clear ho0)) | ((with_reducible refine gate_dst (N := 8) rfl ?_); refine box_event ?hg (N := 8) ?hd (cs := #[.int .i64 0, .int .i64 0, .int .i64 0, .slice none 0 0]) (t := 32) ?hr ?_; (case hd => rfl); (case hg => rfl); (case hr => first | (go_simp; done) | (go_simp; rfl)); intro gbC2 hg w37 hbox hb; have n0_ := Aside0.mk (Kd.R_below (Kd.R_up HOBL.out) hb); have n1_ := Aside0.mk (Kd.R_below (Kd.R_up HOBT.out) hb); have n2_ := Aside0.mk (Kd.R_below (Kd.R_up HOC1.out) hb); have n3_ := Aside0.mk (blk_below (blk_up BKBD.out) hb); have n4_ := Aside0.mk (blk_below (blk_up BKBE.out) hb); have n5_ := Aside0.mk (blk_below (blk_up BKBV.out) hb); have n6_ := Aside0.mk (below_step belS hb); have n7_ := Aside0.mk (hbox); have n8_ := Aside0.mk (geS hg : w.heap.size ≤ gbC2); have n9_ := n8_; have n10_ := Aside0.mk ((by rw [hg]; exact Nat.ne_of_lt (blk_lt (blk_up BKBD.out)) : gbBD ≠ gbC2)); have n11_ := Aside0.mk ((by rw [hg]; exact Nat.ne_of_gt (blk_lt (blk_up BKBD.out)) : gbC2 ≠ gbBD)); have n12_ := Aside0.mk ((by rw [hg]; exact Nat.ne_of_lt (blk_lt (blk_up BKBE.out)) : gbBE ≠ gbC2)); have n13_ := Aside0.mk ((by rw [hg]; exact Nat.ne_of_gt (blk_lt (blk_up BKBE.out)) : gbC2 ≠ gbBE)); have n14_ := Aside0.mk ((by rw [hg]; exact Nat.ne_of_lt (blk_lt (blk_up BKBV.out)) : gbBV ≠ gbC2)); have n15_ := Aside0.mk ((by rw [hg]; exact Nat.ne_of_gt (blk_lt (blk_up BKBV.out)) : gbC2 ≠ gbBV)); clear HOBL HOBT HOC1 BKBD BKBE BKBV HB; revert n0_ n1_ n2_ n3_ n4_ n5_ n6_ n7_ n8_ n9_ n10_ n11_ n12_ n13_ n14_ n15_; intro HOBL HOBT HOC1 BKBD BKBE BKBV HB BKC2 GWC2 GEC2 NBBD_C2 NBC2_BD NBBE_C2 NBC2_BE NBBV_C2 NBC2_BV; clear hb hbox hg; have hnb38 := NBC2_BD.out; have hnc38 := NBBD_C2.out; have hnb39 := NBC2_BE.out; have hnc39 := NBBE_C2.out; have hnb40 := NBC2_BV.out; have hnc40 := NBBV_C2.out; obtain ⟨hcz41_0, hcz41_1, hcz41_2, hcz41_3, hfz41_0, hfz41_1, hfz41_2, hfz41_3⟩ := blk4 BKC2.out; obtain ⟨Ao42, co42, eo42⟩ := Kd.R_slice HOC1.out; subst eo42))
  have n0_ : Aside0 (Kd.R k27 27 ((((w37.setCell ⟨gbC2, 0, none⟩ (.int .i64 tBW)).setCell ⟨gbC2, 1, none⟩ (.int .i64 tBX)).setCell ⟨gbC2, 2, none⟩ (.int .i64 tBY)).setCell ⟨gbC2, 3, none⟩ (.slice Ao42 tBZ.length co42)) w.heap.size (fun k_ => some k_ ≠ (.slice Ao32 tBR.length co32 : Value).ownBlock ∧ some k_ ≠ (.slice Ao42 tBZ.length co42 : Value).ownBlock) vBK tBJ) := ⟨by (with_reducible repeat (first | apply Kd.R_alloc | apply Kd.R_drewN | apply Kd.R_drew)); exact Kd.R_mono (Kd.R_far (p := ⟨gbC2, 3, none⟩) (Kd.R_far (p := ⟨gbC2, 2, none⟩) (Kd.R_far (p := ⟨gbC2, 1, none⟩) (Kd.R_far (p := ⟨gbC2, 0, none⟩) (Kd.R_types HOBL.out BKC2.out (by decide)) (fun _ hk => hk.2) (.int .i64 tBW)) (fun _ hk => hk.2) (.int .i64 tBX)) (fun _ hk => hk.2) (.int .i64 tBY)) (fun _ hk => hk.2) (.slice Ao42 tBZ.length co42)) (fun _ hk => ⟨hk.1.1, hk.1.2⟩)⟩
  have n1_ : Aside0 (Kd.R k27 27 ((((w37.setCell ⟨gbC2, 0, none⟩ (.int .i64 tBW)).setCell ⟨gbC2, 1, none⟩ (.int .i64 tBX)).setCell ⟨gbC2, 2, none⟩ (.int .i64 tBY)).setCell ⟨gbC2, 3, none⟩ (.slice Ao42 tBZ.length co42)) w.heap.size (fun k_ => some k_ ≠ (vBK : Value).ownBlock ∧ some k_ ≠ (.slice Ao42 tBZ.length co42 : Value).ownBlock) (.slice Ao32 tBR.length co32) tBR) := ⟨by (with_reducible repeat (first | apply Kd.R_alloc | apply Kd.R_drewN | apply Kd.R_drew)); exact Kd.R_mono (Kd.R_far (p := ⟨gbC2, 3, none⟩) (Kd.R_far (p := ⟨gbC2, 2, none⟩) (Kd.R_far (p := ⟨gbC2, 1, none⟩) (Kd.R_far (p := ⟨gbC2, 0, none⟩) (Kd.R_types HOBT.out BKC2.out (by decide)) (fun _ hk => hk.2) (.int .i64 tBW)) (fun _ hk => hk.2) (.int .i64 tBX)) (fun _ hk => hk.2) (.int .i64 tBY)) (fun _ hk => hk.2) (.slice Ao42 tBZ.length co42)) (fun _ hk => ⟨hk.1.1, hk.1.2⟩)⟩
  have n2_ : Aside0 (Kd.R k27 27 ((((w37.setCell ⟨gbC2, 0, none⟩ (.int .i64 tBW)).setCell ⟨gbC2, 1, none⟩ (.int .i64 tBX)).setCell ⟨gbC2, 2, none⟩ (.int .i64 tBY)).setCell ⟨gbC2, 3, none⟩ (.slice Ao42 tBZ.length co42)) w.heap.size (fun k_ => some k_ ≠ (vBK : Value).ownBlock ∧ some k_ ≠ (.slice Ao32 tBR.length co32 : Value).ownBlock) (.slice Ao42 tBZ.length co42) tBZ) := ⟨by (with_reducible repeat (first | apply Kd.R_alloc | apply Kd.R_drewN | apply Kd.R_drew)); exact Kd.R_mono (Kd.R_far (p := ⟨gbC2, 3, none⟩) (Kd.R_far (p := ⟨gbC2, 2, none⟩) (Kd.R_far (p := ⟨gbC2, 1, none⟩) (Kd.R_far (p := ⟨gbC2, 0, none⟩) (Kd.R_types HOC1.out BKC2.out (by decide)) (fun _ hk => hk.2) (.int .i64 tBW)) (fun _ hk => hk.2) (.int .i64 tBX)) (fun _ hk => hk.2) (.int .i64 tBY)) (fun _ hk => hk.2) (.slice Ao42 tBZ.length co42)) (fun _ hk => ⟨hk.1.1.2, hk.1.2⟩)⟩
  have n3_ : Aside0 (((((w37.setCell ⟨gbC2, 0, none⟩ (.int .i64 tBW)).setCell ⟨gbC2, 1, none⟩ (.int .i64 tBX)).setCell ⟨gbC2, 2, none⟩ (.int .i64 tBY)).setCell ⟨gbC2, 3, none⟩ (.slice Ao42 tBZ.length co42)).heap[gbBD]? = some (.cells #[.int .i64 a0_0, .int .i64 a0_1, .int .i64 a0_2, .slice A0_3 l0_3.length c0_3] 24 (0, 0))) := ⟨by (with_reducible repeat (first | refine blk_drewN ?_ _ | refine blk_drew ?_ | refine blk_alloc ?_ _)); refine blk_farU ?_ NBBD_C2.out _; refine blk_farU ?_ NBBD_C2.out _; refine blk_farU ?_ NBBD_C2.out _; refine blk_farU ?_ NBBD_C2.out _; exact BKBD.out⟩
  have n4_ : Aside0 (((((w37.setCell ⟨gbC2, 0, none⟩ (.int .i64 tBW)).setCell ⟨gbC2, 1, none⟩ (.int .i64 tBX)).setCell ⟨gbC2, 2, none⟩ (.int .i64 tBY)).setCell ⟨gbC2, 3, none⟩ (.slice Ao42 tBZ.length co42)).heap[gbBE]? = some (.cells #[.int .i64 a1_0, .int .i64 a1_1] 82 (0, 0))) := ⟨by (with_reducible repeat (first | refine blk_drewN ?_ _ | refine blk_drew ?_ | refine blk_alloc ?_ _)); refine blk_farU ?_ NBBE_C2.out _; refine blk_farU ?_ NBBE_C2.out _; refine blk_farU ?_ NBBE_C2.out _; refine blk_farU ?_ NBBE_C2.out _; exact BKBE.out⟩
  have n5_ : Aside0 (((((w37.setCell ⟨gbC2, 0, none⟩ (.int .i64 tBW)).setCell ⟨gbC2, 1, none⟩ (.int .i64 tBX)).setCell ⟨gbC2, 2, none⟩ (.int .i64 tBY)).setCell ⟨gbC2, 3, none⟩ (.slice Ao42 tBZ.length co42)).heap[gbBV]? = some (.cells #[.int .i64 tBO, .int .i64 tBP, .int .i64 tBQ, .slice Ao32 tBR.length co32] 32 (0, 0))) := ⟨by (with_reducible repeat (first | refine blk_drewN ?_ _ | refine blk_drew ?_ | refine blk_alloc ?_ _)); refine blk_farU ?_ NBBV_C2.out _; refine blk_farU ?_ NBBV_C2.out _; refine blk_farU ?_ NBBV_C2.out _; refine blk_farU ?_ NBBV_C2.out _; exact BKBV.out⟩
  have n6_ : Aside0 (((((w37.setCell ⟨gbC2, 0, none⟩ (.int .i64 tBW)).setCell ⟨gbC2, 1, none⟩ (.int .i64 tBX)).setCell ⟨gbC2, 2, none⟩ (.int .i64 tBY)).setCell ⟨gbC2, 3, none⟩ (.slice Ao42 tBZ.length co42)).heap[gbC2]? = some (.cells #[.int .i64 tBW, .int .i64 tBX, .int .i64 tBY, .slice Ao42 tBZ.length co42] 32 (0, 0))) := ⟨by (with_reducible repeat (first | refine blk_drewN ?_ _ | refine blk_drew ?_ | refine blk_alloc ?_ _)); refine blk_put (cs := #[.int .i64 tBW, .int .i64 tBX, .int .i64 tBY, .slice none 0 0]) ?_ 3 _ rfl; refine blk_put (cs := #[.int .i64 tBW, .int .i64 tBX, .int .i64 0, .slice none 0 0]) ?_ 2 _ rfl; refine blk_put (cs := #[.int .i64 tBW, .int .i64 0, .int .i64 0, .slice none 0 0]) ?_ 1 _ rfl; refine blk_putU (cs := #[.int .i64 0, .int .i64 0, .int .i64 0, .slice none 0 0]) ?_ 0 _ rfl; exact BKC2.out⟩
  have n7_ : Aside0 (Below w.heap.size w ((((w37.setCell ⟨gbC2, 0, none⟩ (.int .i64 tBW)).setCell ⟨gbC2, 1, none⟩ (.int .i64 tBX)).setCell ⟨gbC2, 2, none⟩ (.int .i64 tBY)).setCell ⟨gbC2, 3, none⟩ (.slice Ao42 tBZ.length co42))) := ⟨by exact belS⟩
  (try clear HOBL)
  (try clear HOBT)
  (try clear HOC1)
  (try clear BKBD)
  (try clear BKBE)
  (try clear BKBV)
  (try clear BKC2)
  (try clear HB)
  generalize ((((w37.setCell ⟨gbC2, 0, none⟩ (.int .i64 tBW)).setCell ⟨gbC2, 1, none⟩ (.int .i64 tBX)).setCell ⟨gbC2, 2, none⟩ (.int .i64 tBY)).setCell ⟨gbC2, 3, none⟩ (.slice Ao42 tBZ.length co42)) = w43 at n0_ n1_ n2_ n3_ n4_ n5_ n6_ n7_ ⊢
  have HOBL := n0_
  have HOBT := n1_
  have HOC1 := n2_
  have BKBD := n3_
  have BKBE := n4_
  have BKBV := n5_
  have BKC2 := n6_
  have HB := n7_
  clear n0_ n1_ n2_ n3_ n4_ n5_ n6_ n7_
  have n0_ := Aside0.mk (Kd.R_drew HOBL.out)
  have n1_ := Aside0.mk (Kd.R_drew HOBT.out)
  have n2_ := Aside0.mk (Kd.R_drew HOC1.out)
  have n3_ := Aside0.mk (blk_drew BKBD.out)
  have n4_ := Aside0.mk (blk_drew BKBE.out)
  have n5_ := Aside0.mk (blk_drew BKBV.out)
  have n6_ := Aside0.mk (blk_drew BKC2.out)
  have n7_ := Aside0.mk (below_drew1 HB.out)
  clear HOBL
  clear HOBT
  clear HOC1
  clear BKBD
  clear BKBE
  clear BKBV
  clear BKC2
  clear HB
  have HOBL := n0_
  have HOBT := n1_
  have HOC1 := n2_
  have BKBD := n3_
  have BKBE := n4_
  have BKBV := n5_
  have BKC2 := n6_
  have HB := n7_
  clear n0_ n1_ n2_ n3_ n4_ n5_ n6_ n7_
  refine start_ (n := 10) (S := fun w' => w'.cell? ⟨gbC2, 0, none⟩ = some (.int .i64 tBW) ∧ w'.cell? ⟨gbC2, 1, none⟩ = some (.int .i64 tBX) ∧ w'.cell? ⟨gbC2, 2, none⟩ = some (.int .i64 tBY) ∧ w'.cell? ⟨gbC2, 3, none⟩ = some (.slice Ao42 tBZ.length co42) ∧ w'.cell? ⟨gbBE, 0, none⟩ = some (.int .i64 a1_0) ∧ w'.cell? ⟨gbBE, 1, none⟩ = some (.int .i64 a1_1)) (ds := []) #[false, false, false, false, false, false, false, false, false, false] (by kernel_rfl) rfl rfl ⟨(blk_cell BKC2.out 0).trans rfl, (blk_cell BKC2.out 1).trans rfl, (blk_cell BKC2.out 2).trans rfl, (blk_cell BKC2.out 3).trans rfl, (blk_cell BKBE.out 0).trans rfl, (blk_cell BKBE.out 1).trans rfl⟩ (fun hHeld => ?_); refine with_tabW laws_FnExactAddJump.tab7 laws_FnExactAddJump.bits7 (fun HT_ HW_ => ?_)
  generalize w43.drew = w44 at HOBL HOBT HOC1 BKBD BKBE BKBV BKC2 HB hHeld ⊢
  refine take_ (i := 0) (N := some 32) (v := ?_) (a' := ?_) #[true, false, false, false, false, false, false, false, false, false] rfl rfl (take_ofW HT_.out HW_.out (by kernel_rfl)) (fun _ _ _ h => h) (Or.inl ⟨by rfl, ?_⟩) hHeld ?_ ?_
  rotate_left
  ·rintro w' ⟨s0, s1, s2, s3, s4, s5⟩
   go_simp
   with_reducible rfl
  rotate_left
  ·simp only [Act.put, sA_, sB_, sC_, i64_w, i32_w]
   rfl
  refine take_ (i := 1) (N := some 33) (v := ?_) (a' := ?_) #[true, true, false, false, false, false, false, false, false, false] rfl rfl (take_ofW HT_.out HW_.out (by kernel_rfl)) (fun _ _ _ h => h) (Or.inl ⟨by rfl, ?_⟩) hHeld ?_ ?_
  rotate_left
  ·rintro w' ⟨s0, s1, s2, s3, s4, s5⟩
   go_simp
   with_reducible rfl
  rotate_left
  ·simp only [Act.put, sA_, sB_, sC_, i64_w, i32_w]
   rfl
  refine join_ (σ := Value × Nat) 2 bLawsFnExactAddJump_18 (fun s_ => [(34, .agg #[.int .i64 tC3, .int .i64 tC4]), (35, .tuple #[.agg #[.int .i64 tC5, .int .i64 tC6, .int .i64 tC7, s_.1], .bool tCb]), (9, .pointer (some ⟨s_.2, 0, none⟩)), (31, .tuple #[.agg #[.int .i64 tC5, .int .i64 tC6, .int .i64 tC7, s_.1], .bool tCb]), (36, .agg #[.int .i64 tC5, .int .i64 tC6, .int .i64 tC7, s_.1]), (37, .bool tCb)]) (fun s_ w' => (w'.cell? ⟨gbC2, 0, none⟩ = some (.int .i64 tBW) ∧ w'.cell? ⟨gbC2, 1, none⟩ = some (.int .i64 tBX) ∧ w'.cell? ⟨gbC2, 2, none⟩ = some (.int .i64 tBY) ∧ w'.cell? ⟨gbC2, 3, none⟩ = some (.slice Ao42 tBZ.length co42) ∧ w'.cell? ⟨gbBE, 0, none⟩ = some (.int .i64 a1_0) ∧ w'.cell? ⟨gbBE, 1, none⟩ = some (.int .i64 a1_1)) ∧ (Kd.R k27 27 w' w.heap.size (fun k_ => some k_ ≠ (.slice Ao32 tBR.length co32 : Value).ownBlock ∧ some k_ ≠ (.slice Ao42 tBZ.length co42 : Value).ownBlock ∧ some k_ ≠ (s_.1 : Value).ownBlock) vBK tBJ) ∧ (Kd.R k27 27 w' w.heap.size (fun k_ => some k_ ≠ (vBK : Value).ownBlock ∧ some k_ ≠ (.slice Ao42 tBZ.length co42 : Value).ownBlock ∧ some k_ ≠ (s_.1 : Value).ownBlock) (.slice Ao32 tBR.length co32) tBR) ∧ (Kd.R k27 27 w' w.heap.size (fun k_ => some k_ ≠ (vBK : Value).ownBlock ∧ some k_ ≠ (.slice Ao32 tBR.length co32 : Value).ownBlock ∧ some k_ ≠ (s_.1 : Value).ownBlock) (.slice Ao42 tBZ.length co42) tBZ) ∧ (Kd.R k27 27 w' w.heap.size (fun k_ => some k_ ≠ (vBK : Value).ownBlock ∧ some k_ ≠ (.slice Ao32 tBR.length co32 : Value).ownBlock ∧ some k_ ≠ (.slice Ao42 tBZ.length co42 : Value).ownBlock) s_.1 tC8) ∧ (w'.heap[gbBD]? = some (.cells #[.int .i64 a0_0, .int .i64 a0_1, .int .i64 a0_2, .slice A0_3 l0_3.length c0_3] 24 (0, 0))) ∧ (w'.heap[gbBE]? = some (.cells #[.int .i64 a1_0, .int .i64 a1_1] 82 (0, 0))) ∧ (w'.heap[gbBV]? = some (.cells #[.int .i64 tBO, .int .i64 tBP, .int .i64 tBQ, .slice Ao32 tBR.length co32] 32 (0, 0))) ∧ (w'.heap[gbC2]? = some (.cells #[.int .i64 tBW, .int .i64 tBX, .int .i64 tBY, .slice Ao42 tBZ.length co42] 32 (0, 0))) ∧ (w'.heap[s_.2]? = some (.cells #[.int .i64 0, .int .i64 0, .int .i64 0, .slice none 0 0] 32 (0, 0))) ∧ (w.heap.size ≤ s_.2) ∧ (w.heap.size ≤ s_.2) ∧ (gbBD ≠ s_.2) ∧ (s_.2 ≠ gbBD) ∧ (gbBE ≠ s_.2) ∧ (s_.2 ≠ gbBE) ∧ (gbBV ≠ s_.2) ∧ (s_.2 ≠ gbBV) ∧ (gbC2 ≠ s_.2) ∧ (s_.2 ≠ gbC2) ∧ (Below w.heap.size w w')) ?_ ?_
  rotate_left
  ·intro hCont
   refine two_ (i := 2) (j := 7) (Ni := some 34) (Nj := some 9) #[true, true, true, false, false, false, false, false, false, false] #[true, true, false, false, false, false, false, true, false, false] rfl rfl rfl rfl (two_of HT_.out (by kernel_rfl)) (by decide) (by decide) (fun K hK => ?_) (fun K hK => ?_)
   ·skip
    refine goes_ Try.func106 (by kernel_rfl) rfl #[.agg #[.int .i64 a1_0, .int .i64 a1_1]] (by rfl) rfl rfl argS ?_
    with_reducible refine (laws_toJump.calls a1_0 a1_1 tC3 tC4 _ A14.out).mono ?_
    rintro e w45 ⟨rfl, hb⟩
    refine ⟨_, rfl, ?_⟩
    have n0_ := Aside0.mk (Kd.R_below (Kd.R_up HOBL.out) hb)
    have n1_ := Aside0.mk (Kd.R_below (Kd.R_up HOBT.out) hb)
    have n2_ := Aside0.mk (Kd.R_below (Kd.R_up HOC1.out) hb)
    have n3_ := Aside0.mk (blk_below (blk_up BKBD.out) hb)
    have n4_ := Aside0.mk (blk_below (blk_up BKBE.out) hb)
    have n5_ := Aside0.mk (blk_below (blk_up BKBV.out) hb)
    have n6_ := Aside0.mk (blk_below (blk_up BKC2.out) hb)
    have n7_ := Aside0.mk (below_step belS hb)
    clear HOBL
    clear HOBT
    clear HOC1
    clear BKBD
    clear BKBE
    clear BKBV
    clear BKC2
    clear HB
    have HOBL := n0_
    have HOBT := n1_
    have HOC1 := n2_
    have BKBD := n3_
    have BKBE := n4_
    have BKBV := n5_
    have BKC2 := n6_
    have HB := n7_
    clear n0_ n1_ n2_ n3_ n4_ n5_ n6_ n7_
    (try clear hb)
    (try clear hb2)
    (try clear hk)
    (try clear hi)
    refine hK.out _ _ ⟨(blk_cell BKC2.out 0).trans rfl, (blk_cell BKC2.out 1).trans rfl, (blk_cell BKC2.out 2).trans rfl, (blk_cell BKC2.out 3).trans rfl, (blk_cell BKBE.out 0).trans rfl, (blk_cell BKBE.out 1).trans rfl⟩ (fun hHeld => ?_)
    clear hK K
    refine norm_ (a' := ?_) ?_ ?_
    rotate_left
    ·show Act.put _ (some 34) _ = _
     simp only [Act.put, sA_, sB_, sC_, i64_w, i32_w]
     rfl
    refine two_ (i := 3) (j := 7) (Ni := some 35) (Nj := some 9) #[true, true, true, true, false, false, false, false, false, false] bLawsFnExactAddJump_19 rfl rfl rfl rfl (two_of HT_.out (by kernel_rfl)) (by decide) (by decide) (fun K hK => ?_) (fun K hK => ?_)
    ·skip
     refine goes_ Try.func107 (by kernel_rfl) rfl #[.agg #[.int .i64 tBW, .int .i64 tBX, .int .i64 tBY, .slice Ao42 tBZ.length co42], .agg #[.int .i64 tC3, .int .i64 tC4]] (by rfl) rfl rfl argS ?_
     with_reducible refine (impl_AddJump.calls k tBW tBX tBY _ _ tBZ tC3 tC4 tC5 tC6 tC7 tC8 tCb _ ?side1 ?side2 A15.out).mono ?_
     (case side1 => exact Kd.C_up (Kd.R_reads' HOC1.out).2.2)
     (case side2 => exact (Kd.R_reads' HOC1.out).2.1)
     rintro e w46 ⟨vC9, rfl, ho0, hb⟩
     refine ⟨_, rfl, ?_⟩
     have n0_ := Aside0.mk (Kd.R_elder' (Kd.R_up HOBL.out) (Kd.R_base ho0) hb)
     have n1_ := Aside0.mk (Kd.R_elder' (Kd.R_up HOBT.out) (Kd.R_base ho0) hb)
     have n2_ := Aside0.mk (Kd.R_elder' (Kd.R_up HOC1.out) (Kd.R_base ho0) hb)
     have n3_ := Aside0.mk (Kd.R_lower (Kd.R_new' (Kd.R_new' (Kd.R_new' ho0 (Kd.R_lt (Kd.R_up HOBL.out))) (Kd.R_lt (Kd.R_up HOBT.out))) (Kd.R_lt (Kd.R_up HOC1.out))) (below_size belS))
     have n4_ := Aside0.mk (blk_below (blk_up BKBD.out) hb)
     have n5_ := Aside0.mk (blk_below (blk_up BKBE.out) hb)
     have n6_ := Aside0.mk (blk_below (blk_up BKBV.out) hb)
     have n7_ := Aside0.mk (blk_below (blk_up BKC2.out) hb)
     have n8_ := Aside0.mk (below_step belS hb)
     clear HOBL
     clear HOBT
     clear HOC1
     clear BKBD
     clear BKBE
     clear BKBV
     clear BKC2
     clear HB
     have HOBL := n0_
     have HOBT := n1_
     have HOC1 := n2_
     have HOCa := n3_
     have BKBD := n4_
     have BKBE := n5_
     have BKBV := n6_
     have BKC2 := n7_
     have HB := n8_
     clear n0_ n1_ n2_ n3_ n4_ n5_ n6_ n7_ n8_
     (try clear hb)
     (try clear hb2)
     (try clear hk)
     (try clear hi)
     (try clear ho0)
     refine hK.out _ _ ⟨(blk_cell BKC2.out 0).trans rfl, (blk_cell BKC2.out 1).trans rfl, (blk_cell BKC2.out 2).trans rfl, (blk_cell BKC2.out 3).trans rfl, (blk_cell BKBE.out 0).trans rfl, (blk_cell BKBE.out 1).trans rfl⟩ (fun hHeld => ?_)
     clear hK K
     refine norm_ (a' := ?_) ?_ ?_
     rotate_left
     ·show Act.put _ (some 35) _ = _
      simp only [Act.put, sA_, sB_, sC_, i64_w, i32_w]
      rfl
     refine pure_ (i := 4) (N := some 31) (v := ?_) (a' := ?_) #[true, true, true, true, true, false, false, false, false, false] rfl rfl (any_of HT_.out (by kernel_rfl)) (fun _ _ _ h => h) (Or.inl ⟨by rfl, ?_⟩) ?_ ?_
     rotate_left
     ·intro w'
      go_simp
      with_reducible rfl
     rotate_left
     ·simp only [Act.put, sA_, sB_, sC_, i64_w, i32_w]
      rfl
     refine pure_ (i := 5) (N := some 36) (v := ?_) (a' := ?_) #[true, true, true, true, true, true, false, false, false, false] rfl rfl (any_of HT_.out (by kernel_rfl)) (fun _ _ _ h => h) (Or.inl ⟨by rfl, ?_⟩) ?_ ?_
     rotate_left
     ·intro w'
      go_simp
      with_reducible rfl
     rotate_left
     ·simp only [Act.put, sA_, sB_, sC_, i64_w, i32_w]
      rfl
     refine pure_ (i := 6) (N := some 37) (v := ?_) (a' := ?_) #[true, true, true, true, true, true, true, false, false, false] rfl rfl (any_of HT_.out (by kernel_rfl)) (fun _ _ _ h => h) (Or.inl ⟨by rfl, ?_⟩) ?_ ?_
     rotate_left
     ·intro w'
      go_simp
      with_reducible rfl
     rotate_left
     ·simp only [Act.put, sA_, sB_, sC_, i64_w, i32_w]
      rfl
     refine one_ (i := 7) (N := some 9) bLawsFnExactAddJump_18 rfl rfl (one_of HT_.out (by kernel_rfl)) (by decide) (fun K hK => ?_)
     refine box_step ?hg (N := 9) ?hd (cs := #[.int .i64 0, .int .i64 0, .int .i64 0, .slice none 0 0]) (t := 32) ?hr ?_; (case hd => rfl); (case hg => rfl); (case hr => first | (go_simp; done) | (go_simp; rfl))
     intro gbCc hg w47 hbox hb
     have n0_ := Aside0.mk (Kd.R_below (Kd.R_up HOBL.out) hb)
     have n1_ := Aside0.mk (Kd.R_below (Kd.R_up HOBT.out) hb)
     have n2_ := Aside0.mk (Kd.R_below (Kd.R_up HOC1.out) hb)
     have n3_ := Aside0.mk (Kd.R_below (Kd.R_up HOCa.out) hb)
     have n4_ := Aside0.mk (blk_below (blk_up BKBD.out) hb)
     have n5_ := Aside0.mk (blk_below (blk_up BKBE.out) hb)
     have n6_ := Aside0.mk (blk_below (blk_up BKBV.out) hb)
     have n7_ := Aside0.mk (blk_below (blk_up BKC2.out) hb)
     have n8_ := Aside0.mk (below_step belS hb)
     have n9_ := Aside0.mk (hbox)
     have n10_ := Aside0.mk (geS hg : w.heap.size ≤ gbCc)
     have n11_ := Aside0.mk (geS hg : w.heap.size ≤ gbCc)
     have n12_ := Aside0.mk ((by rw [hg]; exact Nat.ne_of_lt (blk_lt (blk_up BKBD.out)) : gbBD ≠ gbCc))
     have n13_ := Aside0.mk ((by rw [hg]; exact Nat.ne_of_gt (blk_lt (blk_up BKBD.out)) : gbCc ≠ gbBD))
     have n14_ := Aside0.mk ((by rw [hg]; exact Nat.ne_of_lt (blk_lt (blk_up BKBE.out)) : gbBE ≠ gbCc))
     have n15_ := Aside0.mk ((by rw [hg]; exact Nat.ne_of_gt (blk_lt (blk_up BKBE.out)) : gbCc ≠ gbBE))
     have n16_ := Aside0.mk ((by rw [hg]; exact Nat.ne_of_lt (blk_lt (blk_up BKBV.out)) : gbBV ≠ gbCc))
     have n17_ := Aside0.mk ((by rw [hg]; exact Nat.ne_of_gt (blk_lt (blk_up BKBV.out)) : gbCc ≠ gbBV))
     have n18_ := Aside0.mk ((by rw [hg]; exact Nat.ne_of_lt (blk_lt (blk_up BKC2.out)) : gbC2 ≠ gbCc))
     have n19_ := Aside0.mk ((by rw [hg]; exact Nat.ne_of_gt (blk_lt (blk_up BKC2.out)) : gbCc ≠ gbC2))
     clear HOBL
     clear HOBT
     clear HOC1
     clear HOCa
     clear BKBD
     clear BKBE
     clear BKBV
     clear BKC2
     clear HB
     have HOBL := n0_
     have HOBT := n1_
     have HOC1 := n2_
     have HOCa := n3_
     have BKBD := n4_
     have BKBE := n5_
     have BKBV := n6_
     have BKC2 := n7_
     have HB := n8_
     have BKCc := n9_
     have GWCc := n10_
     have GECc := n11_
     have NBBD_Cc := n12_
     have NBCc_BD := n13_
     have NBBE_Cc := n14_
     have NBCc_BE := n15_
     have NBBV_Cc := n16_
     have NBCc_BV := n17_
     have NBC2_Cc := n18_
     have NBCc_C2 := n19_
     clear n0_ n1_ n2_ n3_ n4_ n5_ n6_ n7_ n8_ n9_ n10_ n11_ n12_ n13_ n14_ n15_ n16_ n17_ n18_ n19_
     clear hb hbox hg
     refine hK.out _ _ ⟨(blk_cell BKC2.out 0).trans rfl, (blk_cell BKC2.out 1).trans rfl, (blk_cell BKC2.out 2).trans rfl, (blk_cell BKC2.out 3).trans rfl, (blk_cell BKBE.out 0).trans rfl, (blk_cell BKBE.out 1).trans rfl⟩ (fun hHeld => ?_)
     clear hK K
     refine norm_ (a' := ?_) ?_ ?_
     rotate_left
     ·show Act.put _ (some 9) _ = _
      simp only [Act.put, sA_, sB_, sC_, i64_w, i32_w]
      rfl
     exact norm_ (by simp only [putAll, Act.put, sA_, sB_, sC_]) (hCont (vC9, gbCc) _ ⟨hHeld, (by (with_reducible repeat (first | apply Kd.R_alloc | apply Kd.R_drewN | apply Kd.R_drew)); exact Kd.R_mono HOBL.out (fun _ hk => ⟨hk.1.1, ⟨hk.1.2, hk.2⟩⟩)), (by (with_reducible repeat (first | apply Kd.R_alloc | apply Kd.R_drewN | apply Kd.R_drew)); exact Kd.R_mono HOBT.out (fun _ hk => ⟨hk.1.1, ⟨hk.1.2, hk.2⟩⟩)), (by (with_reducible repeat (first | apply Kd.R_alloc | apply Kd.R_drewN | apply Kd.R_drew)); exact Kd.R_mono HOC1.out (fun _ hk => ⟨hk.1.1, ⟨hk.1.2, hk.2⟩⟩)), (by (with_reducible repeat (first | apply Kd.R_alloc | apply Kd.R_drewN | apply Kd.R_drew)); exact Kd.R_mono HOCa.out (fun _ hk => ⟨hk.1.1.2, ⟨hk.1.2, hk.2⟩⟩)), (blk_up BKBD.out), (blk_up BKBE.out), (blk_up BKBV.out), (blk_up BKC2.out), (blk_up BKCc.out), GWCc.out, GECc.out, NBBD_Cc.out, NBCc_BD.out, NBBE_Cc.out, NBCc_BE.out, NBBV_Cc.out, NBCc_BV.out, NBC2_Cc.out, NBCc_C2.out, belS⟩)
    ·skip
     refine box_step ?hg (N := 9) ?hd (cs := #[.int .i64 0, .int .i64 0, .int .i64 0, .slice none 0 0]) (t := 32) ?hr ?_; (case hd => rfl); (case hg => rfl); (case hr => first | (go_simp; done) | (go_simp; rfl))
     intro gbCc hg w46 hbox hb
     have n0_ := Aside0.mk (Kd.R_below (Kd.R_up HOBL.out) hb)
     have n1_ := Aside0.mk (Kd.R_below (Kd.R_up HOBT.out) hb)
     have n2_ := Aside0.mk (Kd.R_below (Kd.R_up HOC1.out) hb)
     have n3_ := Aside0.mk (blk_below (blk_up BKBD.out) hb)
     have n4_ := Aside0.mk (blk_below (blk_up BKBE.out) hb)
     have n5_ := Aside0.mk (blk_below (blk_up BKBV.out) hb)
     have n6_ := Aside0.mk (blk_below (blk_up BKC2.out) hb)
     have n7_ := Aside0.mk (below_step belS hb)
     have n8_ := Aside0.mk (hbox)
     have n9_ := Aside0.mk (geS hg : w.heap.size ≤ gbCc)
     have n10_ := Aside0.mk (geS hg : w.heap.size ≤ gbCc)
     have n11_ := Aside0.mk ((by rw [hg]; exact Nat.ne_of_lt (blk_lt (blk_up BKBD.out)) : gbBD ≠ gbCc))
     have n12_ := Aside0.mk ((by rw [hg]; exact Nat.ne_of_gt (blk_lt (blk_up BKBD.out)) : gbCc ≠ gbBD))
     have n13_ := Aside0.mk ((by rw [hg]; exact Nat.ne_of_lt (blk_lt (blk_up BKBE.out)) : gbBE ≠ gbCc))
     have n14_ := Aside0.mk ((by rw [hg]; exact Nat.ne_of_gt (blk_lt (blk_up BKBE.out)) : gbCc ≠ gbBE))
     have n15_ := Aside0.mk ((by rw [hg]; exact Nat.ne_of_lt (blk_lt (blk_up BKBV.out)) : gbBV ≠ gbCc))
     have n16_ := Aside0.mk ((by rw [hg]; exact Nat.ne_of_gt (blk_lt (blk_up BKBV.out)) : gbCc ≠ gbBV))
     have n17_ := Aside0.mk ((by rw [hg]; exact Nat.ne_of_lt (blk_lt (blk_up BKC2.out)) : gbC2 ≠ gbCc))
     have n18_ := Aside0.mk ((by rw [hg]; exact Nat.ne_of_gt (blk_lt (blk_up BKC2.out)) : gbCc ≠ gbC2))
     clear HOBL
     clear HOBT
     clear HOC1
     clear BKBD
     clear BKBE
     clear BKBV
     clear BKC2
     clear HB
     have HOBL := n0_
     have HOBT := n1_
     have HOC1 := n2_
     have BKBD := n3_
     have BKBE := n4_
     have BKBV := n5_
     have BKC2 := n6_
     have HB := n7_
     have BKCc := n8_
     have GWCc := n9_
     have GECc := n10_
     have NBBD_Cc := n11_
     have NBCc_BD := n12_
     have NBBE_Cc := n13_
     have NBCc_BE := n14_
     have NBBV_Cc := n15_
     have NBCc_BV := n16_
     have NBC2_Cc := n17_
     have NBCc_C2 := n18_
     clear n0_ n1_ n2_ n3_ n4_ n5_ n6_ n7_ n8_ n9_ n10_ n11_ n12_ n13_ n14_ n15_ n16_ n17_ n18_
     clear hb hbox hg
     refine hK.out _ _ ⟨(blk_cell BKC2.out 0).trans rfl, (blk_cell BKC2.out 1).trans rfl, (blk_cell BKC2.out 2).trans rfl, (blk_cell BKC2.out 3).trans rfl, (blk_cell BKBE.out 0).trans rfl, (blk_cell BKBE.out 1).trans rfl⟩ (fun hHeld => ?_)
     clear hK K
     refine norm_ (a' := ?_) ?_ ?_
     rotate_left
     ·show Act.put _ (some 9) _ = _
      simp only [Act.put, sA_, sB_, sC_, i64_w, i32_w]
      rfl
     refine one_ (i := 3) (N := some 35) bLawsFnExactAddJump_20 rfl rfl (one_of HT_.out (by kernel_rfl)) (by decide) (fun K hK => ?_)
     refine goes_ Try.func107 (by kernel_rfl) rfl #[.agg #[.int .i64 tBW, .int .i64 tBX, .int .i64 tBY, .slice Ao42 tBZ.length co42], .agg #[.int .i64 tC3, .int .i64 tC4]] (by rfl) rfl rfl argS ?_
     with_reducible refine (impl_AddJump.calls k tBW tBX tBY _ _ tBZ tC3 tC4 tC5 tC6 tC7 tC8 tCb _ ?side1 ?side2 A15.out).mono ?_
     (case side1 => exact Kd.C_up (Kd.R_reads' HOC1.out).2.2)
     (case side2 => exact (Kd.R_reads' HOC1.out).2.1)
     rintro e w47 ⟨vC9, rfl, ho0, hb⟩
     refine ⟨_, rfl, ?_⟩
     have n0_ := Aside0.mk (Kd.R_elder' (Kd.R_up HOBL.out) (Kd.R_base ho0) hb)
     have n1_ := Aside0.mk (Kd.R_elder' (Kd.R_up HOBT.out) (Kd.R_base ho0) hb)
     have n2_ := Aside0.mk (Kd.R_elder' (Kd.R_up HOC1.out) (Kd.R_base ho0) hb)
     have n3_ := Aside0.mk (Kd.R_lower (Kd.R_new' (Kd.R_new' (Kd.R_new' ho0 (Kd.R_lt (Kd.R_up HOBL.out))) (Kd.R_lt (Kd.R_up HOBT.out))) (Kd.R_lt (Kd.R_up HOC1.out))) (below_size belS))
     have n4_ := Aside0.mk (blk_below (blk_up BKBD.out) hb)
     have n5_ := Aside0.mk (blk_below (blk_up BKBE.out) hb)
     have n6_ := Aside0.mk (blk_below (blk_up BKBV.out) hb)
     have n7_ := Aside0.mk (blk_below (blk_up BKC2.out) hb)
     have n8_ := Aside0.mk (blk_below (blk_up BKCc.out) hb)
     have n9_ := Aside0.mk (below_step belS hb)
     clear HOBL
     clear HOBT
     clear HOC1
     clear BKBD
     clear BKBE
     clear BKBV
     clear BKC2
     clear BKCc
     clear HB
     have HOBL := n0_
     have HOBT := n1_
     have HOC1 := n2_
     have HOCa := n3_
     have BKBD := n4_
     have BKBE := n5_
     have BKBV := n6_
     have BKC2 := n7_
     have BKCc := n8_
     have HB := n9_
     clear n0_ n1_ n2_ n3_ n4_ n5_ n6_ n7_ n8_ n9_
     (try clear hb)
     (try clear hb2)
     (try clear hk)
     (try clear hi)
     (try clear ho0)
     refine hK.out _ _ ⟨(blk_cell BKC2.out 0).trans rfl, (blk_cell BKC2.out 1).trans rfl, (blk_cell BKC2.out 2).trans rfl, (blk_cell BKC2.out 3).trans rfl, (blk_cell BKBE.out 0).trans rfl, (blk_cell BKBE.out 1).trans rfl⟩ (fun hHeld => ?_)
     clear hK K
     refine norm_ (a' := ?_) ?_ ?_
     rotate_left
     ·show Act.put _ (some 35) _ = _
      simp only [Act.put, sA_, sB_, sC_, i64_w, i32_w]
      rfl
     refine pure_ (i := 4) (N := some 31) (v := ?_) (a' := ?_) bLawsFnExactAddJump_21 rfl rfl (any_of HT_.out (by kernel_rfl)) (fun _ _ _ h => h) (Or.inl ⟨by rfl, ?_⟩) ?_ ?_
     rotate_left
     ·intro w'
      go_simp
      with_reducible rfl
     rotate_left
     ·simp only [Act.put, sA_, sB_, sC_, i64_w, i32_w]
      rfl
     refine pure_ (i := 5) (N := some 36) (v := ?_) (a' := ?_) bLawsFnExactAddJump_22 rfl rfl (any_of HT_.out (by kernel_rfl)) (fun _ _ _ h => h) (Or.inl ⟨by rfl, ?_⟩) ?_ ?_
     rotate_left
     ·intro w'
      go_simp
      with_reducible rfl
     rotate_left
     ·simp only [Act.put, sA_, sB_, sC_, i64_w, i32_w]
      rfl
     refine pure_ (i := 6) (N := some 37) (v := ?_) (a' := ?_) bLawsFnExactAddJump_18 rfl rfl (any_of HT_.out (by kernel_rfl)) (fun _ _ _ h => h) (Or.inl ⟨by rfl, ?_⟩) ?_ ?_
     rotate_left
     ·intro w'
      go_simp
      with_reducible rfl
     rotate_left
     ·simp only [Act.put, sA_, sB_, sC_, i64_w, i32_w]
      rfl
     exact norm_ (by simp only [putAll, Act.put, sA_, sB_, sC_]) (hCont (vC9, gbCc) _ ⟨hHeld, (by (with_reducible repeat (first | apply Kd.R_alloc | apply Kd.R_drewN | apply Kd.R_drew)); exact Kd.R_mono HOBL.out (fun _ hk => ⟨hk.1.1, ⟨hk.1.2, hk.2⟩⟩)), (by (with_reducible repeat (first | apply Kd.R_alloc | apply Kd.R_drewN | apply Kd.R_drew)); exact Kd.R_mono HOBT.out (fun _ hk => ⟨hk.1.1, ⟨hk.1.2, hk.2⟩⟩)), (by (with_reducible repeat (first | apply Kd.R_alloc | apply Kd.R_drewN | apply Kd.R_drew)); exact Kd.R_mono HOC1.out (fun _ hk => ⟨hk.1.1, ⟨hk.1.2, hk.2⟩⟩)), (by (with_reducible repeat (first | apply Kd.R_alloc | apply Kd.R_drewN | apply Kd.R_drew)); exact Kd.R_mono HOCa.out (fun _ hk => ⟨hk.1.1.2, ⟨hk.1.2, hk.2⟩⟩)), (blk_up BKBD.out), (blk_up BKBE.out), (blk_up BKBV.out), (blk_up BKC2.out), (blk_up BKCc.out), GWCc.out, GECc.out, NBBD_Cc.out, NBCc_BD.out, NBBE_Cc.out, NBCc_BE.out, NBBV_Cc.out, NBCc_BV.out, NBC2_Cc.out, NBCc_C2.out, belS⟩)
   ·skip
    refine box_step ?hg (N := 9) ?hd (cs := #[.int .i64 0, .int .i64 0, .int .i64 0, .slice none 0 0]) (t := 32) ?hr ?_; (case hd => rfl); (case hg => rfl); (case hr => first | (go_simp; done) | (go_simp; rfl))
    intro gbCc hg w45 hbox hb
    have n0_ := Aside0.mk (Kd.R_below (Kd.R_up HOBL.out) hb)
    have n1_ := Aside0.mk (Kd.R_below (Kd.R_up HOBT.out) hb)
    have n2_ := Aside0.mk (Kd.R_below (Kd.R_up HOC1.out) hb)
    have n3_ := Aside0.mk (blk_below (blk_up BKBD.out) hb)
    have n4_ := Aside0.mk (blk_below (blk_up BKBE.out) hb)
    have n5_ := Aside0.mk (blk_below (blk_up BKBV.out) hb)
    have n6_ := Aside0.mk (blk_below (blk_up BKC2.out) hb)
    have n7_ := Aside0.mk (below_step belS hb)
    have n8_ := Aside0.mk (hbox)
    have n9_ := Aside0.mk (geS hg : w.heap.size ≤ gbCc)
    have n10_ := Aside0.mk (geS hg : w.heap.size ≤ gbCc)
    have n11_ := Aside0.mk ((by rw [hg]; exact Nat.ne_of_lt (blk_lt (blk_up BKBD.out)) : gbBD ≠ gbCc))
    have n12_ := Aside0.mk ((by rw [hg]; exact Nat.ne_of_gt (blk_lt (blk_up BKBD.out)) : gbCc ≠ gbBD))
    have n13_ := Aside0.mk ((by rw [hg]; exact Nat.ne_of_lt (blk_lt (blk_up BKBE.out)) : gbBE ≠ gbCc))
    have n14_ := Aside0.mk ((by rw [hg]; exact Nat.ne_of_gt (blk_lt (blk_up BKBE.out)) : gbCc ≠ gbBE))
    have n15_ := Aside0.mk ((by rw [hg]; exact Nat.ne_of_lt (blk_lt (blk_up BKBV.out)) : gbBV ≠ gbCc))
    have n16_ := Aside0.mk ((by rw [hg]; exact Nat.ne_of_gt (blk_lt (blk_up BKBV.out)) : gbCc ≠ gbBV))
    have n17_ := Aside0.mk ((by rw [hg]; exact Nat.ne_of_lt (blk_lt (blk_up BKC2.out)) : gbC2 ≠ gbCc))
    have n18_ := Aside0.mk ((by rw [hg]; exact Nat.ne_of_gt (blk_lt (blk_up BKC2.out)) : gbCc ≠ gbC2))
    clear HOBL
    clear HOBT
    clear HOC1
    clear BKBD
    clear BKBE
    clear BKBV
    clear BKC2
    clear HB
    have HOBL := n0_
    have HOBT := n1_
    have HOC1 := n2_
    have BKBD := n3_
    have BKBE := n4_
    have BKBV := n5_
    have BKC2 := n6_
    have HB := n7_
    have BKCc := n8_
    have GWCc := n9_
    have GECc := n10_
    have NBBD_Cc := n11_
    have NBCc_BD := n12_
    have NBBE_Cc := n13_
    have NBCc_BE := n14_
    have NBBV_Cc := n15_
    have NBCc_BV := n16_
    have NBC2_Cc := n17_
    have NBCc_C2 := n18_
    clear n0_ n1_ n2_ n3_ n4_ n5_ n6_ n7_ n8_ n9_ n10_ n11_ n12_ n13_ n14_ n15_ n16_ n17_ n18_
    clear hb hbox hg
    refine hK.out _ _ ⟨(blk_cell BKC2.out 0).trans rfl, (blk_cell BKC2.out 1).trans rfl, (blk_cell BKC2.out 2).trans rfl, (blk_cell BKC2.out 3).trans rfl, (blk_cell BKBE.out 0).trans rfl, (blk_cell BKBE.out 1).trans rfl⟩ (fun hHeld => ?_)
    clear hK K
    refine norm_ (a' := ?_) ?_ ?_
    rotate_left
    ·show Act.put _ (some 9) _ = _
     simp only [Act.put, sA_, sB_, sC_, i64_w, i32_w]
     rfl
    refine one_ (i := 2) (N := some 34) bLawsFnExactAddJump_19 rfl rfl (one_of HT_.out (by kernel_rfl)) (by decide) (fun K hK => ?_)
    refine goes_ Try.func106 (by kernel_rfl) rfl #[.agg #[.int .i64 a1_0, .int .i64 a1_1]] (by rfl) rfl rfl argS ?_
    with_reducible refine (laws_toJump.calls a1_0 a1_1 tC3 tC4 _ A14.out).mono ?_
    rintro e w46 ⟨rfl, hb⟩
    refine ⟨_, rfl, ?_⟩
    have n0_ := Aside0.mk (Kd.R_below (Kd.R_up HOBL.out) hb)
    have n1_ := Aside0.mk (Kd.R_below (Kd.R_up HOBT.out) hb)
    have n2_ := Aside0.mk (Kd.R_below (Kd.R_up HOC1.out) hb)
    have n3_ := Aside0.mk (blk_below (blk_up BKBD.out) hb)
    have n4_ := Aside0.mk (blk_below (blk_up BKBE.out) hb)
    have n5_ := Aside0.mk (blk_below (blk_up BKBV.out) hb)
    have n6_ := Aside0.mk (blk_below (blk_up BKC2.out) hb)
    have n7_ := Aside0.mk (blk_below (blk_up BKCc.out) hb)
    have n8_ := Aside0.mk (below_step belS hb)
    clear HOBL
    clear HOBT
    clear HOC1
    clear BKBD
    clear BKBE
    clear BKBV
    clear BKC2
    clear BKCc
    clear HB
    have HOBL := n0_
    have HOBT := n1_
    have HOC1 := n2_
    have BKBD := n3_
    have BKBE := n4_
    have BKBV := n5_
    have BKC2 := n6_
    have BKCc := n7_
    have HB := n8_
    clear n0_ n1_ n2_ n3_ n4_ n5_ n6_ n7_ n8_
    (try clear hb)
    (try clear hb2)
    (try clear hk)
    (try clear hi)
    refine hK.out _ _ ⟨(blk_cell BKC2.out 0).trans rfl, (blk_cell BKC2.out 1).trans rfl, (blk_cell BKC2.out 2).trans rfl, (blk_cell BKC2.out 3).trans rfl, (blk_cell BKBE.out 0).trans rfl, (blk_cell BKBE.out 1).trans rfl⟩ (fun hHeld => ?_)
    clear hK K
    refine norm_ (a' := ?_) ?_ ?_
    rotate_left
    ·show Act.put _ (some 34) _ = _
     simp only [Act.put, sA_, sB_, sC_, i64_w, i32_w]
     rfl
    refine one_ (i := 3) (N := some 35) bLawsFnExactAddJump_20 rfl rfl (one_of HT_.out (by kernel_rfl)) (by decide) (fun K hK => ?_)
    refine goes_ Try.func107 (by kernel_rfl) rfl #[.agg #[.int .i64 tBW, .int .i64 tBX, .int .i64 tBY, .slice Ao42 tBZ.length co42], .agg #[.int .i64 tC3, .int .i64 tC4]] (by rfl) rfl rfl argS ?_
    with_reducible refine (impl_AddJump.calls k tBW tBX tBY _ _ tBZ tC3 tC4 tC5 tC6 tC7 tC8 tCb _ ?side1 ?side2 A15.out).mono ?_
    (case side1 => exact Kd.C_up (Kd.R_reads' HOC1.out).2.2)
    (case side2 => exact (Kd.R_reads' HOC1.out).2.1)
    rintro e w47 ⟨vC9, rfl, ho0, hb⟩
    refine ⟨_, rfl, ?_⟩
    have n0_ := Aside0.mk (Kd.R_elder' (Kd.R_up HOBL.out) (Kd.R_base ho0) hb)
    have n1_ := Aside0.mk (Kd.R_elder' (Kd.R_up HOBT.out) (Kd.R_base ho0) hb)
    have n2_ := Aside0.mk (Kd.R_elder' (Kd.R_up HOC1.out) (Kd.R_base ho0) hb)
    have n3_ := Aside0.mk (Kd.R_lower (Kd.R_new' (Kd.R_new' (Kd.R_new' ho0 (Kd.R_lt (Kd.R_up HOBL.out))) (Kd.R_lt (Kd.R_up HOBT.out))) (Kd.R_lt (Kd.R_up HOC1.out))) (below_size belS))
    have n4_ := Aside0.mk (blk_below (blk_up BKBD.out) hb)
    have n5_ := Aside0.mk (blk_below (blk_up BKBE.out) hb)
    have n6_ := Aside0.mk (blk_below (blk_up BKBV.out) hb)
    have n7_ := Aside0.mk (blk_below (blk_up BKC2.out) hb)
    have n8_ := Aside0.mk (blk_below (blk_up BKCc.out) hb)
    have n9_ := Aside0.mk (below_step belS hb)
    clear HOBL
    clear HOBT
    clear HOC1
    clear BKBD
    clear BKBE
    clear BKBV
    clear BKC2
    clear BKCc
    clear HB
    have HOBL := n0_
    have HOBT := n1_
    have HOC1 := n2_
    have HOCa := n3_
    have BKBD := n4_
    have BKBE := n5_
    have BKBV := n6_
    have BKC2 := n7_
    have BKCc := n8_
    have HB := n9_
    clear n0_ n1_ n2_ n3_ n4_ n5_ n6_ n7_ n8_ n9_
    (try clear hb)
    (try clear hb2)
    (try clear hk)
    (try clear hi)
    (try clear ho0)
    refine hK.out _ _ ⟨(blk_cell BKC2.out 0).trans rfl, (blk_cell BKC2.out 1).trans rfl, (blk_cell BKC2.out 2).trans rfl, (blk_cell BKC2.out 3).trans rfl, (blk_cell BKBE.out 0).trans rfl, (blk_cell BKBE.out 1).trans rfl⟩ (fun hHeld => ?_)
    clear hK K
    refine norm_ (a' := ?_) ?_ ?_
    rotate_left
    ·show Act.put _ (some 35) _ = _
     simp only [Act.put, sA_, sB_, sC_, i64_w, i32_w]
     rfl
    refine pure_ (i := 4) (N := some 31) (v := ?_) (a' := ?_) bLawsFnExactAddJump_21 rfl rfl (any_of HT_.out (by kernel_rfl)) (fun _ _ _ h => h) (Or.inl ⟨by rfl, ?_⟩) ?_ ?_
    rotate_left
    ·intro w'
     go_simp
     with_reducible rfl
    rotate_left
    ·simp only [Act.put, sA_, sB_, sC_, i64_w, i32_w]
     rfl
    refine pure_ (i := 5) (N := some 36) (v := ?_) (a' := ?_) bLawsFnExactAddJump_22 rfl rfl (any_of HT_.out (by kernel_rfl)) (fun _ _ _ h => h) (Or.inl ⟨by rfl, ?_⟩) ?_ ?_
    rotate_left
    ·intro w'
     go_simp
     with_reducible rfl
    rotate_left
    ·simp only [Act.put, sA_, sB_, sC_, i64_w, i32_w]
     rfl
    refine pure_ (i := 6) (N := some 37) (v := ?_) (a' := ?_) bLawsFnExactAddJump_18 rfl rfl (any_of HT_.out (by kernel_rfl)) (fun _ _ _ h => h) (Or.inl ⟨by rfl, ?_⟩) ?_ ?_
    rotate_left
    ·intro w'
     go_simp
     with_reducible rfl
    rotate_left
    ·simp only [Act.put, sA_, sB_, sC_, i64_w, i32_w]
     rfl
    exact norm_ (by simp only [putAll, Act.put, sA_, sB_, sC_]) (hCont (vC9, gbCc) _ ⟨hHeld, (by (with_reducible repeat (first | apply Kd.R_alloc | apply Kd.R_drewN | apply Kd.R_drew)); exact Kd.R_mono HOBL.out (fun _ hk => ⟨hk.1.1, ⟨hk.1.2, hk.2⟩⟩)), (by (with_reducible repeat (first | apply Kd.R_alloc | apply Kd.R_drewN | apply Kd.R_drew)); exact Kd.R_mono HOBT.out (fun _ hk => ⟨hk.1.1, ⟨hk.1.2, hk.2⟩⟩)), (by (with_reducible repeat (first | apply Kd.R_alloc | apply Kd.R_drewN | apply Kd.R_drew)); exact Kd.R_mono HOC1.out (fun _ hk => ⟨hk.1.1, ⟨hk.1.2, hk.2⟩⟩)), (by (with_reducible repeat (first | apply Kd.R_alloc | apply Kd.R_drewN | apply Kd.R_drew)); exact Kd.R_mono HOCa.out (fun _ hk => ⟨hk.1.1.2, ⟨hk.1.2, hk.2⟩⟩)), (blk_up BKBD.out), (blk_up BKBE.out), (blk_up BKBV.out), (blk_up BKC2.out), (blk_up BKCc.out), GWCc.out, GECc.out, NBBD_Cc.out, NBCc_BD.out, NBBE_Cc.out, NBCc_BE.out, NBBV_Cc.out, NBCc_BV.out, NBC2_Cc.out, NBCc_C2.out, belS⟩)
  rintro ⟨vC9, gbCc⟩ w48 ⟨hS_, h0_, h1_, h2_, h3_, h4_, h5_, h6_, h7_, h8_, h9_, h10_, h11_, h12_, h13_, h14_, h15_, h16_, h17_, h18_, h19_⟩
  have n0_ : Aside0 (Kd.R k27 27 w48 w.heap.size (fun k_ => some k_ ≠ (.slice Ao32 tBR.length co32 : Value).ownBlock ∧ some k_ ≠ (.slice Ao42 tBZ.length co42 : Value).ownBlock ∧ some k_ ≠ (vC9 : Value).ownBlock) vBK tBJ) := ⟨h0_⟩
  have n1_ : Aside0 (Kd.R k27 27 w48 w.heap.size (fun k_ => some k_ ≠ (vBK : Value).ownBlock ∧ some k_ ≠ (.slice Ao42 tBZ.length co42 : Value).ownBlock ∧ some k_ ≠ (vC9 : Value).ownBlock) (.slice Ao32 tBR.length co32) tBR) := ⟨h1_⟩
  have n2_ : Aside0 (Kd.R k27 27 w48 w.heap.size (fun k_ => some k_ ≠ (vBK : Value).ownBlock ∧ some k_ ≠ (.slice Ao32 tBR.length co32 : Value).ownBlock ∧ some k_ ≠ (vC9 : Value).ownBlock) (.slice Ao42 tBZ.length co42) tBZ) := ⟨h2_⟩
  have n3_ : Aside0 (Kd.R k27 27 w48 w.heap.size (fun k_ => some k_ ≠ (vBK : Value).ownBlock ∧ some k_ ≠ (.slice Ao32 tBR.length co32 : Value).ownBlock ∧ some k_ ≠ (.slice Ao42 tBZ.length co42 : Value).ownBlock) vC9 tC8) := ⟨h3_⟩
  have n4_ : Aside0 (w48.heap[gbBD]? = some (.cells #[.int .i64 a0_0, .int .i64 a0_1, .int .i64 a0_2, .slice A0_3 l0_3.length c0_3] 24 (0, 0))) := ⟨h4_⟩
  have n5_ : Aside0 (w48.heap[gbBE]? = some (.cells #[.int .i64 a1_0, .int .i64 a1_1] 82 (0, 0))) := ⟨h5_⟩
  have n6_ : Aside0 (w48.heap[gbBV]? = some (.cells #[.int .i64 tBO, .int .i64 tBP, .int .i64 tBQ, .slice Ao32 tBR.length co32] 32 (0, 0))) := ⟨h6_⟩
  have n7_ : Aside0 (w48.heap[gbC2]? = some (.cells #[.int .i64 tBW, .int .i64 tBX, .int .i64 tBY, .slice Ao42 tBZ.length co42] 32 (0, 0))) := ⟨h7_⟩
  have n8_ : Aside0 (w48.heap[gbCc]? = some (.cells #[.int .i64 0, .int .i64 0, .int .i64 0, .slice none 0 0] 32 (0, 0))) := ⟨h8_⟩
  have n9_ : Aside0 (w.heap.size ≤ gbCc) := ⟨h9_⟩
  have n10_ : Aside0 (w.heap.size ≤ gbCc) := ⟨h10_⟩
  have n11_ : Aside0 (gbBD ≠ gbCc) := ⟨h11_⟩
  have n12_ : Aside0 (gbCc ≠ gbBD) := ⟨h12_⟩
  have n13_ : Aside0 (gbBE ≠ gbCc) := ⟨h13_⟩
  have n14_ : Aside0 (gbCc ≠ gbBE) := ⟨h14_⟩
  have n15_ : Aside0 (gbBV ≠ gbCc) := ⟨h15_⟩
  have n16_ : Aside0 (gbCc ≠ gbBV) := ⟨h16_⟩
  have n17_ : Aside0 (gbC2 ≠ gbCc) := ⟨h17_⟩
  have n18_ : Aside0 (gbCc ≠ gbC2) := ⟨h18_⟩
  have n19_ : Aside0 (Below w.heap.size w w48) := ⟨h19_⟩
  clear HOBL
  clear HOBT
  clear HOC1
  clear BKBD
  clear BKBE
  clear BKBV
  clear BKC2
  clear HB
  clear h0_ h1_ h2_ h3_ h4_ h5_ h6_ h7_ h8_ h9_ h10_ h11_ h12_ h13_ h14_ h15_ h16_ h17_ h18_ h19_
  have HOBL := n0_
  have HOBT := n1_
  have HOC1 := n2_
  have HOCa := n3_
  have BKBD := n4_
  have BKBE := n5_
  have BKBV := n6_
  have BKC2 := n7_
  have BKCc := n8_
  have GWCc := n9_
  have GECc := n10_
  have NBBD_Cc := n11_
  have NBCc_BD := n12_
  have NBBE_Cc := n13_
  have NBCc_BE := n14_
  have NBBV_Cc := n15_
  have NBCc_BV := n16_
  have NBC2_Cc := n17_
  have NBCc_C2 := n18_
  have HB := n19_
  clear n0_ n1_ n2_ n3_ n4_ n5_ n6_ n7_ n8_ n9_ n10_ n11_ n12_ n13_ n14_ n15_ n16_ n17_ n18_ n19_
  have hHeld : w48.cell? ⟨gbC2, 0, none⟩ = some (.int .i64 tBW) ∧ w48.cell? ⟨gbC2, 1, none⟩ = some (.int .i64 tBX) ∧ w48.cell? ⟨gbC2, 2, none⟩ = some (.int .i64 tBY) ∧ w48.cell? ⟨gbC2, 3, none⟩ = some (.slice Ao42 tBZ.length co42) ∧ w48.cell? ⟨gbBE, 0, none⟩ = some (.int .i64 a1_0) ∧ w48.cell? ⟨gbBE, 1, none⟩ = some (.int .i64 a1_1) := hS_
  obtain ⟨Ao52, co52, eo52⟩ := Kd.R_slice HOCa.out
  (first | subst eo52 | (injection eo52 with f1_ f2_ f3_; have f4_ := f1_.symm; have f5_ := f3_.symm; clear f1_ f2_ f3_; subst f4_; subst f5_))
  refine norm_ (a' := ?_) ?_ ?_
  rotate_left
  ·simp only [putAll, Act.put, sA_, sB_, sC_]
   rfl
  refine one_ (i := 8) (N := none) #[true, true, true, true, true, true, true, true, true, false] rfl rfl (one_of HT_.out (by kernel_rfl)) (by decide) (fun K hK => ?_)
  have hs49 : w48.cell? ⟨gbCc, 0, none⟩ = some (.int .i64 0) := (blk_cell BKCc.out 0).trans rfl
  have hfs49 := blk_frozen BKCc.out 0
  have hns49_0 := NBBD_Cc.out
  have hns49_1 := NBBE_Cc.out
  have hns49_2 := NBBV_Cc.out
  have hns49_3 := NBC2_Cc.out
  have hms49_0 := NBCc_BD.out
  have hms49_1 := NBCc_BE.out
  have hms49_2 := NBCc_BV.out
  have hms49_3 := NBCc_C2.out
  have hs50 : w48.cell? ⟨gbCc, 1, none⟩ = some (.int .i64 0) := (blk_cell BKCc.out 1).trans rfl
  have hfs50 := blk_frozen BKCc.out 1
  have hns50_0 := NBBD_Cc.out
  have hns50_1 := NBBE_Cc.out
  have hns50_2 := NBBV_Cc.out
  have hns50_3 := NBC2_Cc.out
  have hms50_0 := NBCc_BD.out
  have hms50_1 := NBCc_BE.out
  have hms50_2 := NBCc_BV.out
  have hms50_3 := NBCc_C2.out
  have hs51 : w48.cell? ⟨gbCc, 2, none⟩ = some (.int .i64 0) := (blk_cell BKCc.out 2).trans rfl
  have hfs51 := blk_frozen BKCc.out 2
  have hns51_0 := NBBD_Cc.out
  have hns51_1 := NBBE_Cc.out
  have hns51_2 := NBBV_Cc.out
  have hns51_3 := NBC2_Cc.out
  have hms51_0 := NBCc_BD.out
  have hms51_1 := NBCc_BE.out
  have hms51_2 := NBCc_BV.out
  have hms51_3 := NBCc_C2.out
  have hs53 : w48.cell? ⟨gbCc, 3, none⟩ = some (.slice none 0 0) := (blk_cell BKCc.out 3).trans rfl
  have hfs53 := blk_frozen BKCc.out 3
  have hns53_0 := NBBD_Cc.out
  have hns53_1 := NBBE_Cc.out
  have hns53_2 := NBBV_Cc.out
  have hns53_3 := NBC2_Cc.out
  have hms53_0 := NBCc_BD.out
  have hms53_1 := NBCc_BE.out
  have hms53_2 := NBCc_BV.out
  have hms53_3 := NBCc_C2.out
  refine skip_ (w1 := ?_) (by rfl) rfl ?_ ?_
  rotate_left
  ·go_simp
   rfl
  refine hK.out _ _ ⟨((cell_far (p := ⟨gbCc, _, none⟩) NBC2_Cc.out _).trans (((cell_far (p := ⟨gbCc, _, none⟩) NBC2_Cc.out _).trans (((cell_far (p := ⟨gbCc, _, none⟩) NBC2_Cc.out _).trans (((cell_far (p := ⟨gbCc, _, none⟩) NBC2_Cc.out _).trans (hHeld.1)))))))), ((cell_far (p := ⟨gbCc, _, none⟩) NBC2_Cc.out _).trans (((cell_far (p := ⟨gbCc, _, none⟩) NBC2_Cc.out _).trans (((cell_far (p := ⟨gbCc, _, none⟩) NBC2_Cc.out _).trans (((cell_far (p := ⟨gbCc, _, none⟩) NBC2_Cc.out _).trans (hHeld.2.1)))))))), ((cell_far (p := ⟨gbCc, _, none⟩) NBC2_Cc.out _).trans (((cell_far (p := ⟨gbCc, _, none⟩) NBC2_Cc.out _).trans (((cell_far (p := ⟨gbCc, _, none⟩) NBC2_Cc.out _).trans (((cell_far (p := ⟨gbCc, _, none⟩) NBC2_Cc.out _).trans (hHeld.2.2.1)))))))), ((cell_far (p := ⟨gbCc, _, none⟩) NBC2_Cc.out _).trans (((cell_far (p := ⟨gbCc, _, none⟩) NBC2_Cc.out _).trans (((cell_far (p := ⟨gbCc, _, none⟩) NBC2_Cc.out _).trans (((cell_far (p := ⟨gbCc, _, none⟩) NBC2_Cc.out _).trans (hHeld.2.2.2.1)))))))), ((cell_far (p := ⟨gbCc, _, none⟩) NBBE_Cc.out _).trans (((cell_far (p := ⟨gbCc, _, none⟩) NBBE_Cc.out _).trans (((cell_far (p := ⟨gbCc, _, none⟩) NBBE_Cc.out _).trans (((cell_far (p := ⟨gbCc, _, none⟩) NBBE_Cc.out _).trans (hHeld.2.2.2.2.1)))))))), ((cell_far (p := ⟨gbCc, _, none⟩) NBBE_Cc.out _).trans (((cell_far (p := ⟨gbCc, _, none⟩) NBBE_Cc.out _).trans (((cell_far (p := ⟨gbCc, _, none⟩) NBBE_Cc.out _).trans (((cell_far (p := ⟨gbCc, _, none⟩) NBBE_Cc.out _).trans (hHeld.2.2.2.2.2))))))))⟩ (fun hHeld => ?_)
  clear hK K
  refine pure_ (i := 9) (N := some 10) (v := ?_) (a' := ?_) #[true, true, true, true, true, true, true, true, true, true] rfl rfl (any_of HT_.out (by kernel_rfl)) (fun _ _ _ h => h) (Or.inl ⟨by rfl, ?_⟩) ?_ ?_
  rotate_left
  ·intro w'
   go_simp
   with_reducible rfl
  rotate_left
  ·simp only [Act.put, sA_, sB_, sC_, i64_w, i32_w]
   rfl
  refine done_ (done_of HT_.out (by kernel_rfl)) ?_
  go_upto_region 8 with (fail)
  go_cut [46] (fun v46 wc => ∃ (kq : Nat) (x46_15 : Bool), v46 = .bool x46_15 ∧ Aside0 (laws_FnExactAddJump.j0 kq tBU tCb x46_15 a0_0 a0_1 a0_2 l0_3 a1_0 a1_1 tBO tBP tBQ tBR tBW tBX tBY tBZ tC5 tC6 tC7 tC8 = some r) ∧ Aside0 (kq ≤ k) ∧ Aside0 (Kd.R k27 27 wc w.heap.size (fun k_ => some k_ ≠ ((.slice Ao42 tBZ.length co42) : Value).ownBlock ∧ some k_ ≠ ((.slice Ao52 tC8.length co52) : Value).ownBlock) (.slice Ao32 tBR.length co32) tBR) ∧ Aside0 (Kd.R k27 27 wc w.heap.size (fun k_ => some k_ ≠ ((.slice Ao32 tBR.length co32) : Value).ownBlock ∧ some k_ ≠ ((.slice Ao52 tC8.length co52) : Value).ownBlock) (.slice Ao42 tBZ.length co42) tBZ) ∧ Aside0 (Kd.R k27 27 wc w.heap.size (fun k_ => some k_ ≠ ((.slice Ao32 tBR.length co32) : Value).ownBlock ∧ some k_ ≠ ((.slice Ao42 tBZ.length co42) : Value).ownBlock) (.slice Ao52 tC8.length co52) tC8) ∧ Aside0 (wc.heap[gbBD]? = some (.cells #[.int .i64 a0_0, .int .i64 a0_1, .int .i64 a0_2, (.slice A0_3 l0_3.length c0_3)] 24 (0, 0))) ∧ Aside0 (wc.heap[gbBE]? = some (.cells #[.int .i64 a1_0, .int .i64 a1_1] 82 (0, 0))) ∧ Aside0 (wc.heap[gbBV]? = some (.cells #[.int .i64 tBO, .int .i64 tBP, .int .i64 tBQ, (.slice Ao32 tBR.length co32)] 32 (0, 0))) ∧ Aside0 (wc.heap[gbC2]? = some (.cells #[.int .i64 tBW, .int .i64 tBX, .int .i64 tBY, (.slice Ao42 tBZ.length co42)] 32 (0, 0))) ∧ Aside0 (wc.heap[gbCc]? = some (.cells #[.int .i64 tC5, .int .i64 tC6, .int .i64 tC7, (.slice Ao52 tC8.length co52)] 32 (0, 0))) ∧ Aside0 (Below w.heap.size w wc))
  case first =>
   have H := HC16.out
   clear HC16
   replace H := Option.bind_eq_some_iff.mp H
   obtain ⟨tCd, A540, H⟩ := H
   replace H : (if tCd = true then (laws_FnExactAddJump.j0 k tBU tCb (tCb != tBU) a0_0 a0_1 a0_2 l0_3 a1_0 a1_1 tBO tBP tBQ tBR tBW tBX tBY tBZ tC5 tC6 tC7 tC8) else (laws_FnExactAddJump.j0 k tBU tCb true a0_0 a0_1 a0_2 l0_3 a1_0 a1_1 tBO tBP tBQ tBR tBW tBX tBY tBZ tC5 tC6 tC7 tC8)) = some r := H
   have A54 := Aside0.mk A540
   clear A540
   by_cases c55 : tCd = true
   ·subst c55
    have H1 : (laws_FnExactAddJump.j0 k tBU tCb (tCb != tBU) a0_0 a0_1 a0_2 l0_3 a1_0 a1_1 tBO tBP tBQ tBR tBW tBX tBY tBZ tC5 tC6 tC7 tC8) = some r := by rw [if_pos rfl] at H; exact H
    clear H
    have H := H1
    clear H1
    have H' := Aside0.mk H
    clear H
    have hnb56 := NBCc_BD.out
    have hnc56 := NBBD_Cc.out
    have hnb57 := NBCc_BE.out
    have hnc57 := NBBE_Cc.out
    have hnb58 := NBCc_BV.out
    have hnc58 := NBBV_Cc.out
    have hnb59 := NBCc_C2.out
    have hnc59 := NBC2_Cc.out
    obtain ⟨hcz60_0, hcz60_1, hcz60_2, hcz60_3, hfz60_0, hfz60_1, hfz60_2, hfz60_3⟩ := blk4 BKCc.out
    have hnb61 := NBBV_BD.out
    have hnc61 := NBBD_BV.out
    have hnb62 := NBBV_BE.out
    have hnc62 := NBBE_BV.out
    have hnb63 := NBBV_C2.out
    have hnc63 := NBC2_BV.out
    obtain ⟨hcz64_0, hcz64_1, hcz64_2, hcz64_3, hfz64_0, hfz64_1, hfz64_2, hfz64_3⟩ := blk4 BKBV.out
    go_wp2_with (first | ((with_reducible refine gate_callee (f := 42) rfl ?_); refine goesL_ (some 40) rfl rfl Try.func42 (by kernel_rfl) rfl #[.agg #[.int .i64 tC5, .int .i64 tC6, .int .i64 tC7, .slice Ao52 tC8.length co52], .agg #[.int .i64 tBO, .int .i64 tBP, .int .i64 tBQ, .slice Ao32 tBR.length co32]] rfl argS ?_; (with_reducible refine (laws_eqBoard.calls k tC5 tC6 tC7 _ _ tC8 tBO tBP tBQ _ _ tBR true _ ?side1 ?side2 ?side3 ?side4 A54.out).mono ?_); (case side1 => refine (Kd.R_reads' (e := 27) (base := w.heap.size) (ok := fun k_ => (some k_ ≠ (vBK : Value).ownBlock ∧ (some k_ ≠ (.slice Ao32 tBR.length co32 : Value).ownBlock ∧ some k_ ≠ (.slice Ao42 tBZ.length co42 : Value).ownBlock))) (n := tC8.length) (c := co52) ?_).2.2; exact (by (with_reducible repeat (first | apply Kd.R_alloc | apply Kd.R_drewN | apply Kd.R_drew)); exact (Kd.R_mono (Kd.R_far (p := ⟨gbCc, 3, none⟩) (Kd.R_far (p := ⟨gbCc, 2, none⟩) (Kd.R_far (p := ⟨gbCc, 1, none⟩) (Kd.R_far (p := ⟨gbCc, 0, none⟩) (Kd.R_types HOCa.out BKCc.out (by decide)) (fun _ hk => hk.2) (.int .i64 tC5)) (fun _ hk => hk.2) (.int .i64 tC6)) (fun _ hk => hk.2) (.int .i64 tC7)) (fun _ hk => hk.2) (.slice Ao52 tC8.length co52)) (fun _ h_ => h_.1)))); (case side2 => exact (Kd.R_reads' HOCa.out).2.1); (case side3 => refine (Kd.R_reads' (e := 27) (base := w.heap.size) (ok := fun k_ => (some k_ ≠ (vBK : Value).ownBlock ∧ (some k_ ≠ (.slice Ao42 tBZ.length co42 : Value).ownBlock ∧ some k_ ≠ (.slice Ao52 tC8.length co52 : Value).ownBlock))) (n := tBR.length) (c := co32) ?_).2.2; exact (by (with_reducible repeat (first | apply Kd.R_alloc | apply Kd.R_drewN | apply Kd.R_drew)); exact (Kd.R_mono (Kd.R_far (p := ⟨gbCc, 3, none⟩) (Kd.R_far (p := ⟨gbCc, 2, none⟩) (Kd.R_far (p := ⟨gbCc, 1, none⟩) (Kd.R_far (p := ⟨gbCc, 0, none⟩) (Kd.R_types HOBT.out BKCc.out (by decide)) (fun _ hk => hk.2) (.int .i64 tC5)) (fun _ hk => hk.2) (.int .i64 tC6)) (fun _ hk => hk.2) (.int .i64 tC7)) (fun _ hk => hk.2) (.slice Ao52 tC8.length co52)) (fun _ h_ => h_.1)))); (case side4 => exact (Kd.R_reads' HOBT.out).2.1); rintro e w65 ⟨rfl, hb⟩; refine ⟨_, rfl, ?_⟩; have n0_ := Aside0.mk (Kd.R_below (by (with_reducible repeat (first | apply Kd.R_alloc | apply Kd.R_drewN | apply Kd.R_drew)); exact (Kd.R_mono (Kd.R_far (p := ⟨gbCc, 3, none⟩) (Kd.R_far (p := ⟨gbCc, 2, none⟩) (Kd.R_far (p := ⟨gbCc, 1, none⟩) (Kd.R_far (p := ⟨gbCc, 0, none⟩) (Kd.R_types HOBL.out BKCc.out (by decide)) (fun _ hk => hk.2) (.int .i64 tC5)) (fun _ hk => hk.2) (.int .i64 tC6)) (fun _ hk => hk.2) (.int .i64 tC7)) (fun _ hk => hk.2) (.slice Ao52 tC8.length co52)) (fun _ h_ => h_.1))) hb); have n1_ := Aside0.mk (Kd.R_below (by (with_reducible repeat (first | apply Kd.R_alloc | apply Kd.R_drewN | apply Kd.R_drew)); exact (Kd.R_mono (Kd.R_far (p := ⟨gbCc, 3, none⟩) (Kd.R_far (p := ⟨gbCc, 2, none⟩) (Kd.R_far (p := ⟨gbCc, 1, none⟩) (Kd.R_far (p := ⟨gbCc, 0, none⟩) (Kd.R_types HOBT.out BKCc.out (by decide)) (fun _ hk => hk.2) (.int .i64 tC5)) (fun _ hk => hk.2) (.int .i64 tC6)) (fun _ hk => hk.2) (.int .i64 tC7)) (fun _ hk => hk.2) (.slice Ao52 tC8.length co52)) (fun _ h_ => h_.1))) hb); have n2_ := Aside0.mk (Kd.R_below (by (with_reducible repeat (first | apply Kd.R_alloc | apply Kd.R_drewN | apply Kd.R_drew)); exact (Kd.R_mono (Kd.R_far (p := ⟨gbCc, 3, none⟩) (Kd.R_far (p := ⟨gbCc, 2, none⟩) (Kd.R_far (p := ⟨gbCc, 1, none⟩) (Kd.R_far (p := ⟨gbCc, 0, none⟩) (Kd.R_types HOC1.out BKCc.out (by decide)) (fun _ hk => hk.2) (.int .i64 tC5)) (fun _ hk => hk.2) (.int .i64 tC6)) (fun _ hk => hk.2) (.int .i64 tC7)) (fun _ hk => hk.2) (.slice Ao52 tC8.length co52)) (fun _ h_ => h_.1))) hb); have n3_ := Aside0.mk (Kd.R_below (by (with_reducible repeat (first | apply Kd.R_alloc | apply Kd.R_drewN | apply Kd.R_drew)); exact (Kd.R_mono (Kd.R_far (p := ⟨gbCc, 3, none⟩) (Kd.R_far (p := ⟨gbCc, 2, none⟩) (Kd.R_far (p := ⟨gbCc, 1, none⟩) (Kd.R_far (p := ⟨gbCc, 0, none⟩) (Kd.R_types HOCa.out BKCc.out (by decide)) (fun _ hk => hk.2) (.int .i64 tC5)) (fun _ hk => hk.2) (.int .i64 tC6)) (fun _ hk => hk.2) (.int .i64 tC7)) (fun _ hk => hk.2) (.slice Ao52 tC8.length co52)) (fun _ h_ => h_.1))) hb); have n4_ := Aside0.mk (blk_below (g := gbBD) (o := .cells #[.int .i64 a0_0, .int .i64 a0_1, .int .i64 a0_2, .slice A0_3 l0_3.length c0_3] 24 (0, 0)) (by (with_reducible repeat (first | refine blk_drewN ?_ _ | refine blk_drew ?_ | refine blk_alloc ?_ _)); refine blk_farU ?_ NBBD_Cc.out _; refine blk_farU ?_ NBBD_Cc.out _; refine blk_farU ?_ NBBD_Cc.out _; refine blk_farU ?_ NBBD_Cc.out _; exact BKBD.out) hb); have n5_ := Aside0.mk (blk_below (g := gbBE) (o := .cells #[.int .i64 a1_0, .int .i64 a1_1] 82 (0, 0)) (by (with_reducible repeat (first | refine blk_drewN ?_ _ | refine blk_drew ?_ | refine blk_alloc ?_ _)); refine blk_farU ?_ NBBE_Cc.out _; refine blk_farU ?_ NBBE_Cc.out _; refine blk_farU ?_ NBBE_Cc.out _; refine blk_farU ?_ NBBE_Cc.out _; exact BKBE.out) hb); have n6_ := Aside0.mk (blk_below (g := gbBV) (o := .cells #[.int .i64 tBO, .int .i64 tBP, .int .i64 tBQ, .slice Ao32 tBR.length co32] 32 (0, 0)) (by (with_reducible repeat (first | refine blk_drewN ?_ _ | refine blk_drew ?_ | refine blk_alloc ?_ _)); refine blk_farU ?_ NBBV_Cc.out _; refine blk_farU ?_ NBBV_Cc.out _; refine blk_farU ?_ NBBV_Cc.out _; refine blk_farU ?_ NBBV_Cc.out _; exact BKBV.out) hb); have n7_ := Aside0.mk (blk_below (g := gbC2) (o := .cells #[.int .i64 tBW, .int .i64 tBX, .int .i64 tBY, .slice Ao42 tBZ.length co42] 32 (0, 0)) (by (with_reducible repeat (first | refine blk_drewN ?_ _ | refine blk_drew ?_ | refine blk_alloc ?_ _)); refine blk_farU ?_ NBC2_Cc.out _; refine blk_farU ?_ NBC2_Cc.out _; refine blk_farU ?_ NBC2_Cc.out _; refine blk_farU ?_ NBC2_Cc.out _; exact BKC2.out) hb); have n8_ := Aside0.mk (blk_below (g := gbCc) (o := .cells #[.int .i64 tC5, .int .i64 tC6, .int .i64 tC7, .slice Ao52 tC8.length co52] 32 (0, 0)) (by (with_reducible repeat (first | refine blk_drewN ?_ _ | refine blk_drew ?_ | refine blk_alloc ?_ _)); refine blk_put (cs := #[.int .i64 tC5, .int .i64 tC6, .int .i64 tC7, .slice none 0 0]) ?_ 3 _ rfl; refine blk_put (cs := #[.int .i64 tC5, .int .i64 tC6, .int .i64 0, .slice none 0 0]) ?_ 2 _ rfl; refine blk_put (cs := #[.int .i64 tC5, .int .i64 0, .int .i64 0, .slice none 0 0]) ?_ 1 _ rfl; refine blk_putU (cs := #[.int .i64 0, .int .i64 0, .int .i64 0, .slice none 0 0]) ?_ 0 _ rfl; exact BKCc.out) hb); have n9_ := Aside0.mk (below_step belS hb); clear HOBL HOBT HOC1 HOCa BKBD BKBE BKBV BKC2 BKCc HB; revert n0_ n1_ n2_ n3_ n4_ n5_ n6_ n7_ n8_ n9_; intro HOBL HOBT HOC1 HOCa BKBD BKBE BKBV BKC2 BKCc HB; (try clear hb); (try clear hk)))
    go_meet
    case rel => exact ⟨_, ((tCb != tBU)), (by first | rfl | (simp; done) | (simp [*]; done)), H', ⟨by first | omega | exact Nat.le_refl _⟩, ⟨by (with_reducible repeat (first | apply Kd.R_alloc | apply Kd.R_drewN | apply Kd.R_drew)); exact Kd.R_mono HOBT.out (fun _ hk => ⟨hk.2.1, hk.2.2⟩)⟩, ⟨by (with_reducible repeat (first | apply Kd.R_alloc | apply Kd.R_drewN | apply Kd.R_drew)); exact Kd.R_mono HOC1.out (fun _ hk => ⟨hk.2.1, hk.2.2⟩)⟩, ⟨by (with_reducible repeat (first | apply Kd.R_alloc | apply Kd.R_drewN | apply Kd.R_drew)); exact Kd.R_mono HOCa.out (fun _ hk => ⟨hk.2.1, hk.2.2⟩)⟩, ⟨by (with_reducible repeat (first | refine blk_drewN ?_ _ | refine blk_drew ?_ | refine blk_alloc ?_ _)); exact BKBD.out⟩, ⟨by (with_reducible repeat (first | refine blk_drewN ?_ _ | refine blk_drew ?_ | refine blk_alloc ?_ _)); exact BKBE.out⟩, ⟨by (with_reducible repeat (first | refine blk_drewN ?_ _ | refine blk_drew ?_ | refine blk_alloc ?_ _)); exact BKBV.out⟩, ⟨by (with_reducible repeat (first | refine blk_drewN ?_ _ | refine blk_drew ?_ | refine blk_alloc ?_ _)); exact BKC2.out⟩, ⟨by (with_reducible repeat (first | refine blk_drewN ?_ _ | refine blk_drew ?_ | refine blk_alloc ?_ _)); exact BKCc.out⟩, ⟨by exact belS⟩⟩
   ·replace c55 := Bool.eq_false_iff.mpr c55
    subst c55
    have H1 : (laws_FnExactAddJump.j0 k tBU tCb true a0_0 a0_1 a0_2 l0_3 a1_0 a1_1 tBO tBP tBQ tBR tBW tBX tBY tBZ tC5 tC6 tC7 tC8) = some r := by rw [if_neg (show ¬ (false = true) by decide)] at H; exact H
    clear H
    have H := H1
    clear H1
    have H' := Aside0.mk H
    clear H
    have hnb66 := NBCc_BD.out
    have hnc66 := NBBD_Cc.out
    have hnb67 := NBCc_BE.out
    have hnc67 := NBBE_Cc.out
    have hnb68 := NBCc_BV.out
    have hnc68 := NBBV_Cc.out
    have hnb69 := NBCc_C2.out
    have hnc69 := NBC2_Cc.out
    obtain ⟨hcz70_0, hcz70_1, hcz70_2, hcz70_3, hfz70_0, hfz70_1, hfz70_2, hfz70_3⟩ := blk4 BKCc.out
    have hnb71 := NBBV_BD.out
    have hnc71 := NBBD_BV.out
    have hnb72 := NBBV_BE.out
    have hnc72 := NBBE_BV.out
    have hnb73 := NBBV_C2.out
    have hnc73 := NBC2_BV.out
    obtain ⟨hcz74_0, hcz74_1, hcz74_2, hcz74_3, hfz74_0, hfz74_1, hfz74_2, hfz74_3⟩ := blk4 BKBV.out
    go_wp2_with (first | ((with_reducible refine gate_callee (f := 42) rfl ?_); refine goesL_ (some 40) rfl rfl Try.func42 (by kernel_rfl) rfl #[.agg #[.int .i64 tC5, .int .i64 tC6, .int .i64 tC7, .slice Ao52 tC8.length co52], .agg #[.int .i64 tBO, .int .i64 tBP, .int .i64 tBQ, .slice Ao32 tBR.length co32]] rfl argS ?_; (with_reducible refine (laws_eqBoard.calls k tC5 tC6 tC7 _ _ tC8 tBO tBP tBQ _ _ tBR false _ ?side1 ?side2 ?side3 ?side4 A54.out).mono ?_); (case side1 => refine (Kd.R_reads' (e := 27) (base := w.heap.size) (ok := fun k_ => (some k_ ≠ (vBK : Value).ownBlock ∧ (some k_ ≠ (.slice Ao32 tBR.length co32 : Value).ownBlock ∧ some k_ ≠ (.slice Ao42 tBZ.length co42 : Value).ownBlock))) (n := tC8.length) (c := co52) ?_).2.2; exact (by (with_reducible repeat (first | apply Kd.R_alloc | apply Kd.R_drewN | apply Kd.R_drew)); exact (Kd.R_mono (Kd.R_far (p := ⟨gbCc, 3, none⟩) (Kd.R_far (p := ⟨gbCc, 2, none⟩) (Kd.R_far (p := ⟨gbCc, 1, none⟩) (Kd.R_far (p := ⟨gbCc, 0, none⟩) (Kd.R_types HOCa.out BKCc.out (by decide)) (fun _ hk => hk.2) (.int .i64 tC5)) (fun _ hk => hk.2) (.int .i64 tC6)) (fun _ hk => hk.2) (.int .i64 tC7)) (fun _ hk => hk.2) (.slice Ao52 tC8.length co52)) (fun _ h_ => h_.1)))); (case side2 => exact (Kd.R_reads' HOCa.out).2.1); (case side3 => refine (Kd.R_reads' (e := 27) (base := w.heap.size) (ok := fun k_ => (some k_ ≠ (vBK : Value).ownBlock ∧ (some k_ ≠ (.slice Ao42 tBZ.length co42 : Value).ownBlock ∧ some k_ ≠ (.slice Ao52 tC8.length co52 : Value).ownBlock))) (n := tBR.length) (c := co32) ?_).2.2; exact (by (with_reducible repeat (first | apply Kd.R_alloc | apply Kd.R_drewN | apply Kd.R_drew)); exact (Kd.R_mono (Kd.R_far (p := ⟨gbCc, 3, none⟩) (Kd.R_far (p := ⟨gbCc, 2, none⟩) (Kd.R_far (p := ⟨gbCc, 1, none⟩) (Kd.R_far (p := ⟨gbCc, 0, none⟩) (Kd.R_types HOBT.out BKCc.out (by decide)) (fun _ hk => hk.2) (.int .i64 tC5)) (fun _ hk => hk.2) (.int .i64 tC6)) (fun _ hk => hk.2) (.int .i64 tC7)) (fun _ hk => hk.2) (.slice Ao52 tC8.length co52)) (fun _ h_ => h_.1)))); (case side4 => exact (Kd.R_reads' HOBT.out).2.1); rintro e w75 ⟨rfl, hb⟩; refine ⟨_, rfl, ?_⟩; have n0_ := Aside0.mk (Kd.R_below (by (with_reducible repeat (first | apply Kd.R_alloc | apply Kd.R_drewN | apply Kd.R_drew)); exact (Kd.R_mono (Kd.R_far (p := ⟨gbCc, 3, none⟩) (Kd.R_far (p := ⟨gbCc, 2, none⟩) (Kd.R_far (p := ⟨gbCc, 1, none⟩) (Kd.R_far (p := ⟨gbCc, 0, none⟩) (Kd.R_types HOBL.out BKCc.out (by decide)) (fun _ hk => hk.2) (.int .i64 tC5)) (fun _ hk => hk.2) (.int .i64 tC6)) (fun _ hk => hk.2) (.int .i64 tC7)) (fun _ hk => hk.2) (.slice Ao52 tC8.length co52)) (fun _ h_ => h_.1))) hb); have n1_ := Aside0.mk (Kd.R_below (by (with_reducible repeat (first | apply Kd.R_alloc | apply Kd.R_drewN | apply Kd.R_drew)); exact (Kd.R_mono (Kd.R_far (p := ⟨gbCc, 3, none⟩) (Kd.R_far (p := ⟨gbCc, 2, none⟩) (Kd.R_far (p := ⟨gbCc, 1, none⟩) (Kd.R_far (p := ⟨gbCc, 0, none⟩) (Kd.R_types HOBT.out BKCc.out (by decide)) (fun _ hk => hk.2) (.int .i64 tC5)) (fun _ hk => hk.2) (.int .i64 tC6)) (fun _ hk => hk.2) (.int .i64 tC7)) (fun _ hk => hk.2) (.slice Ao52 tC8.length co52)) (fun _ h_ => h_.1))) hb); have n2_ := Aside0.mk (Kd.R_below (by (with_reducible repeat (first | apply Kd.R_alloc | apply Kd.R_drewN | apply Kd.R_drew)); exact (Kd.R_mono (Kd.R_far (p := ⟨gbCc, 3, none⟩) (Kd.R_far (p := ⟨gbCc, 2, none⟩) (Kd.R_far (p := ⟨gbCc, 1, none⟩) (Kd.R_far (p := ⟨gbCc, 0, none⟩) (Kd.R_types HOC1.out BKCc.out (by decide)) (fun _ hk => hk.2) (.int .i64 tC5)) (fun _ hk => hk.2) (.int .i64 tC6)) (fun _ hk => hk.2) (.int .i64 tC7)) (fun _ hk => hk.2) (.slice Ao52 tC8.length co52)) (fun _ h_ => h_.1))) hb); have n3_ := Aside0.mk (Kd.R_below (by (with_reducible repeat (first | apply Kd.R_alloc | apply Kd.R_drewN | apply Kd.R_drew)); exact (Kd.R_mono (Kd.R_far (p := ⟨gbCc, 3, none⟩) (Kd.R_far (p := ⟨gbCc, 2, none⟩) (Kd.R_far (p := ⟨gbCc, 1, none⟩) (Kd.R_far (p := ⟨gbCc, 0, none⟩) (Kd.R_types HOCa.out BKCc.out (by decide)) (fun _ hk => hk.2) (.int .i64 tC5)) (fun _ hk => hk.2) (.int .i64 tC6)) (fun _ hk => hk.2) (.int .i64 tC7)) (fun _ hk => hk.2) (.slice Ao52 tC8.length co52)) (fun _ h_ => h_.1))) hb); have n4_ := Aside0.mk (blk_below (g := gbBD) (o := .cells #[.int .i64 a0_0, .int .i64 a0_1, .int .i64 a0_2, .slice A0_3 l0_3.length c0_3] 24 (0, 0)) (by (with_reducible repeat (first | refine blk_drewN ?_ _ | refine blk_drew ?_ | refine blk_alloc ?_ _)); refine blk_farU ?_ NBBD_Cc.out _; refine blk_farU ?_ NBBD_Cc.out _; refine blk_farU ?_ NBBD_Cc.out _; refine blk_farU ?_ NBBD_Cc.out _; exact BKBD.out) hb); have n5_ := Aside0.mk (blk_below (g := gbBE) (o := .cells #[.int .i64 a1_0, .int .i64 a1_1] 82 (0, 0)) (by (with_reducible repeat (first | refine blk_drewN ?_ _ | refine blk_drew ?_ | refine blk_alloc ?_ _)); refine blk_farU ?_ NBBE_Cc.out _; refine blk_farU ?_ NBBE_Cc.out _; refine blk_farU ?_ NBBE_Cc.out _; refine blk_farU ?_ NBBE_Cc.out _; exact BKBE.out) hb); have n6_ := Aside0.mk (blk_below (g := gbBV) (o := .cells #[.int .i64 tBO, .int .i64 tBP, .int .i64 tBQ, .slice Ao32 tBR.length co32] 32 (0, 0)) (by (with_reducible repeat (first | refine blk_drewN ?_ _ | refine blk_drew ?_ | refine blk_alloc ?_ _)); refine blk_farU ?_ NBBV_Cc.out _; refine blk_farU ?_ NBBV_Cc.out _; refine blk_farU ?_ NBBV_Cc.out _; refine blk_farU ?_ NBBV_Cc.out _; exact BKBV.out) hb); have n7_ := Aside0.mk (blk_below (g := gbC2) (o := .cells #[.int .i64 tBW, .int .i64 tBX, .int .i64 tBY, .slice Ao42 tBZ.length co42] 32 (0, 0)) (by (with_reducible repeat (first | refine blk_drewN ?_ _ | refine blk_drew ?_ | refine blk_alloc ?_ _)); refine blk_farU ?_ NBC2_Cc.out _; refine blk_farU ?_ NBC2_Cc.out _; refine blk_farU ?_ NBC2_Cc.out _; refine blk_farU ?_ NBC2_Cc.out _; exact BKC2.out) hb); have n8_ := Aside0.mk (blk_below (g := gbCc) (o := .cells #[.int .i64 tC5, .int .i64 tC6, .int .i64 tC7, .slice Ao52 tC8.length co52] 32 (0, 0)) (by (with_reducible repeat (first | refine blk_drewN ?_ _ | refine blk_drew ?_ | refine blk_alloc ?_ _)); refine blk_put (cs := #[.int .i64 tC5, .int .i64 tC6, .int .i64 tC7, .slice none 0 0]) ?_ 3 _ rfl; refine blk_put (cs := #[.int .i64 tC5, .int .i64 tC6, .int .i64 0, .slice none 0 0]) ?_ 2 _ rfl; refine blk_put (cs := #[.int .i64 tC5, .int .i64 0, .int .i64 0, .slice none 0 0]) ?_ 1 _ rfl; refine blk_putU (cs := #[.int .i64 0, .int .i64 0, .int .i64 0, .slice none 0 0]) ?_ 0 _ rfl; exact BKCc.out) hb); have n9_ := Aside0.mk (below_step belS hb); clear HOBL HOBT HOC1 HOCa BKBD BKBE BKBV BKC2 BKCc HB; revert n0_ n1_ n2_ n3_ n4_ n5_ n6_ n7_ n8_ n9_; intro HOBL HOBT HOC1 HOCa BKBD BKBE BKBV BKC2 BKCc HB; (try clear hb); (try clear hk)))
    go_meet
    case rel => exact ⟨_, (true), (by first | rfl | (simp; done) | (simp [*]; done)), H', ⟨by first | omega | exact Nat.le_refl _⟩, ⟨by (with_reducible repeat (first | apply Kd.R_alloc | apply Kd.R_drewN | apply Kd.R_drew)); exact Kd.R_mono HOBT.out (fun _ hk => ⟨hk.2.1, hk.2.2⟩)⟩, ⟨by (with_reducible repeat (first | apply Kd.R_alloc | apply Kd.R_drewN | apply Kd.R_drew)); exact Kd.R_mono HOC1.out (fun _ hk => ⟨hk.2.1, hk.2.2⟩)⟩, ⟨by (with_reducible repeat (first | apply Kd.R_alloc | apply Kd.R_drewN | apply Kd.R_drew)); exact Kd.R_mono HOCa.out (fun _ hk => ⟨hk.2.1, hk.2.2⟩)⟩, ⟨by (with_reducible repeat (first | refine blk_drewN ?_ _ | refine blk_drew ?_ | refine blk_alloc ?_ _)); exact BKBD.out⟩, ⟨by (with_reducible repeat (first | refine blk_drewN ?_ _ | refine blk_drew ?_ | refine blk_alloc ?_ _)); exact BKBE.out⟩, ⟨by (with_reducible repeat (first | refine blk_drewN ?_ _ | refine blk_drew ?_ | refine blk_alloc ?_ _)); exact BKBV.out⟩, ⟨by (with_reducible repeat (first | refine blk_drewN ?_ _ | refine blk_drew ?_ | refine blk_alloc ?_ _)); exact BKC2.out⟩, ⟨by (with_reducible repeat (first | refine blk_drewN ?_ _ | refine blk_drew ?_ | refine blk_alloc ?_ _)); exact BKCc.out⟩, ⟨by exact belS⟩⟩
  case rest =>
   clear HC16
   try clear c1
   try clear p2
   try clear c4
   try clear c5
   try clear c6
   try clear c7
   try clear c10
   try clear c42
   try clear c55
   try clear c56
   try clear c57
   try clear c58
   try clear c59
   try clear c61
   try clear c62
   try clear c63
   try clear c66
   try clear c67
   try clear c68
   try clear c69
   try clear c71
   try clear c72
   try clear c73
   try clear hcz60_0 hcz60_1 hcz60_2 hcz60_3
   try clear hcz64_0 hcz64_1 hcz64_2 hcz64_3
   try clear hcz70_0 hcz70_1 hcz70_2 hcz70_3
   try clear hcz74_0 hcz74_1 hcz74_2 hcz74_3
   try clear hfz60_0 hfz60_1 hfz60_2 hfz60_3
   try clear hfz64_0 hfz64_1 hfz64_2 hfz64_3
   try clear hfz70_0 hfz70_1 hfz70_2 hfz70_3
   try clear hfz74_0 hfz74_1 hfz74_2 hfz74_3
   obtain ⟨kq, x46_15, rfl, HA, HJ15, HO_BW003, HO_C3003, HO_Cd003, BKBD, BKBE, BKBV, BKC2, BKCc, HB⟩ := hcut
   cases kq with
   | zero => exact absurd HA.out (by simp [laws_FnExactAddJump.j0])
   | succ kj15 =>
    have H := HA.out
    clear HA
    simp only [laws_FnExactAddJump.j0] at H
    by_cases c76 : x46_15 = true
    ·subst c76
     have H1 : (some false) = some r := by rw [if_pos rfl] at H; exact H
     clear H
     have H := H1
     clear H1
     obtain rfl := Option.some.inj H
     go_wp2
     go_ret
     exact ⟨by first | rfl | (simp [errW_none, errW_some] <;> rfl) | (simp [*, errW_none, errW_some] <;> rfl), by exact belS⟩
    ·replace c76 := Bool.eq_false_iff.mpr c76
     subst c76
     have H1 : ((laws_toBoard.f kj15 a0_0 a0_1 a0_2 l0_3).bind fun btCe => ((laws_eqBoard.f kj15 tBW tBX tBY tBZ btCe.1 btCe.2.1 btCe.2.2.1 btCe.2.2.2).bind fun tCk => (if tCk = true then ((laws_markBoard.f kj15 tBW tBX tBY tBZ 1).bind fun btCl => (if btCl.1 < 0 then (laws_FnExactAddJump.j1 kj15 tBU true a0_0 a0_1 a0_2 l0_3 a1_0 a1_1 tBO tBP tBQ tBR tC5 tC6 tC7 tC8) else ((laws_eqBoard.f kj15 tC5 tC6 tC7 tC8 tBO tBP tBQ tBR).bind fun tCn => (if tCn = true then (laws_FnExactAddJump.j1 kj15 tBU (tCb != tBU) a0_0 a0_1 a0_2 l0_3 a1_0 a1_1 tBO tBP tBQ tBR tC5 tC6 tC7 tC8) else (laws_FnExactAddJump.j1 kj15 tBU true a0_0 a0_1 a0_2 l0_3 a1_0 a1_1 tBO tBP tBQ tBR tC5 tC6 tC7 tC8))))) else (some false)))) = some r := by rw [if_neg (show ¬ (false = true) by decide)] at H; exact H
     clear H
     have H := H1
     clear H1
     replace H := Option.bind_eq_some_iff.mp H
     obtain ⟨⟨tCe, tCf, tCg, tCh⟩, A770, H⟩ := H
     replace H : ((laws_eqBoard.f kj15 tBW tBX tBY tBZ tCe tCf tCg tCh).bind fun tCk => (if tCk = true then ((laws_markBoard.f kj15 tBW tBX tBY tBZ 1).bind fun btCl => (if btCl.1 < 0 then (laws_FnExactAddJump.j1 kj15 tBU true a0_0 a0_1 a0_2 l0_3 a1_0 a1_1 tBO tBP tBQ tBR tC5 tC6 tC7 tC8) else ((laws_eqBoard.f kj15 tC5 tC6 tC7 tC8 tBO tBP tBQ tBR).bind fun tCn => (if tCn = true then (laws_FnExactAddJump.j1 kj15 tBU (tCb != tBU) a0_0 a0_1 a0_2 l0_3 a1_0 a1_1 tBO tBP tBQ tBR tC5 tC6 tC7 tC8) else (laws_FnExactAddJump.j1 kj15 tBU true a0_0 a0_1 a0_2 l0_3 a1_0 a1_1 tBO tBP tBQ tBR tC5 tC6 tC7 tC8))))) else (some false))) = some r := H
     have A77 := Aside0.mk A770
     clear A770
     replace H := Option.bind_eq_some_iff.mp H
     obtain ⟨tCk, A780, H⟩ := H
     replace H : (if tCk = true then ((laws_markBoard.f kj15 tBW tBX tBY tBZ 1).bind fun btCl => (if btCl.1 < 0 then (laws_FnExactAddJump.j1 kj15 tBU true a0_0 a0_1 a0_2 l0_3 a1_0 a1_1 tBO tBP tBQ tBR tC5 tC6 tC7 tC8) else ((laws_eqBoard.f kj15 tC5 tC6 tC7 tC8 tBO tBP tBQ tBR).bind fun tCn => (if tCn = true then (laws_FnExactAddJump.j1 kj15 tBU (tCb != tBU) a0_0 a0_1 a0_2 l0_3 a1_0 a1_1 tBO tBP tBQ tBR tC5 tC6 tC7 tC8) else (laws_FnExactAddJump.j1 kj15 tBU true a0_0 a0_1 a0_2 l0_3 a1_0 a1_1 tBO tBP tBQ tBR tC5 tC6 tC7 tC8))))) else (some false)) = some r := H
     have A78 := Aside0.mk A780
     clear A780
     by_cases c79 : tCk = true
     ·subst c79
      have H1 : ((laws_markBoard.f kj15 tBW tBX tBY tBZ 1).bind fun btCl => (if btCl.1 < 0 then (laws_FnExactAddJump.j1 kj15 tBU true a0_0 a0_1 a0_2 l0_3 a1_0 a1_1 tBO tBP tBQ tBR tC5 tC6 tC7 tC8) else ((laws_eqBoard.f kj15 tC5 tC6 tC7 tC8 tBO tBP tBQ tBR).bind fun tCn => (if tCn = true then (laws_FnExactAddJump.j1 kj15 tBU (tCb != tBU) a0_0 a0_1 a0_2 l0_3 a1_0 a1_1 tBO tBP tBQ tBR tC5 tC6 tC7 tC8) else (laws_FnExactAddJump.j1 kj15 tBU true a0_0 a0_1 a0_2 l0_3 a1_0 a1_1 tBO tBP tBQ tBR tC5 tC6 tC7 tC8))))) = some r := by rw [if_pos rfl] at H; exact H
      clear H
      have H := H1
      clear H1
      replace H := Option.bind_eq_some_iff.mp H
      obtain ⟨⟨tCl, tCm⟩, A800, H⟩ := H
      replace H : (if tCl < 0 then (laws_FnExactAddJump.j1 kj15 tBU true a0_0 a0_1 a0_2 l0_3 a1_0 a1_1 tBO tBP tBQ tBR tC5 tC6 tC7 tC8) else ((laws_eqBoard.f kj15 tC5 tC6 tC7 tC8 tBO tBP tBQ tBR).bind fun tCn => (if tCn = true then (laws_FnExactAddJump.j1 kj15 tBU (tCb != tBU) a0_0 a0_1 a0_2 l0_3 a1_0 a1_1 tBO tBP tBQ tBR tC5 tC6 tC7 tC8) else (laws_FnExactAddJump.j1 kj15 tBU true a0_0 a0_1 a0_2 l0_3 a1_0 a1_1 tBO tBP tBQ tBR tC5 tC6 tC7 tC8)))) = some r := H
      have A80 := Aside0.mk A800
      clear A800
      have HC81 := Aside0.mk H
      clear H
      try go_wp2
      have n0_ := Aside0.mk (Kd.R_drew HO_BW003.out)
      have n1_ := Aside0.mk (Kd.R_drew HO_C3003.out)
      have n2_ := Aside0.mk (Kd.R_drew HO_Cd003.out)
      have n3_ := Aside0.mk (blk_drew BKBD.out)
      have n4_ := Aside0.mk (blk_drew BKBE.out)
      have n5_ := Aside0.mk (blk_drew BKBV.out)
      have n6_ := Aside0.mk (blk_drew BKC2.out)
      have n7_ := Aside0.mk (blk_drew BKCc.out)
      have n8_ := Aside0.mk (below_drew1 HB.out)
      clear HO_BW003
      clear HO_C3003
      clear HO_Cd003
      clear BKBD
      clear BKBE
      clear BKBV
      clear BKC2
      clear BKCc
      clear HB
      have HO_BW003 := n0_
      have HO_C3003 := n1_
      have HO_Cd003 := n2_
      have BKBD := n3_
      have BKBE := n4_
      have BKBV := n5_
      have BKC2 := n6_
      have BKCc := n7_
      have HB := n8_
      clear n0_ n1_ n2_ n3_ n4_ n5_ n6_ n7_ n8_
      refine start_ (n := 5) (S := fun w' => w'.cell? ⟨gbC2, 0, none⟩ = some (.int .i64 tBW) ∧ w'.cell? ⟨gbC2, 1, none⟩ = some (.int .i64 tBX) ∧ w'.cell? ⟨gbC2, 2, none⟩ = some (.int .i64 tBY) ∧ w'.cell? ⟨gbC2, 3, none⟩ = some (.slice Ao42 tBZ.length co42) ∧ w'.cell? ⟨gbBD, 0, none⟩ = some (.int .i64 a0_0) ∧ w'.cell? ⟨gbBD, 1, none⟩ = some (.int .i64 a0_1) ∧ w'.cell? ⟨gbBD, 2, none⟩ = some (.int .i64 a0_2) ∧ w'.cell? ⟨gbBD, 3, none⟩ = some (.slice A0_3 l0_3.length c0_3)) (ds := []) #[false, false, false, false, false] (by kernel_rfl) rfl rfl ⟨(blk_cell BKC2.out 0).trans rfl, (blk_cell BKC2.out 1).trans rfl, (blk_cell BKC2.out 2).trans rfl, (blk_cell BKC2.out 3).trans rfl, (blk_cell BKBD.out 0).trans rfl, (blk_cell BKBD.out 1).trans rfl, (blk_cell BKBD.out 2).trans rfl, (blk_cell BKBD.out 3).trans rfl⟩ (fun hHeld => ?_)
      generalize wc.drew = w82 at HO_BW003 HO_C3003 HO_Cd003 BKBD BKBE BKBV BKC2 BKCc HB hHeld ⊢
      refine take_ (i := 0) (N := some 47) (v := ?_) (a' := ?_) #[true, false, false, false, false] rfl rfl (by kernel_rfl) (fun _ _ _ h => h) (Or.inl ⟨by rfl, ?_⟩) hHeld ?_ ?_
      rotate_left
      ·rintro w' ⟨s0, s1, s2, s3, s4, s5, s6, s7⟩
       go_simp
       with_reducible rfl
      rotate_left
      ·simp only [Act.put, sA_, sB_, sC_, i64_w, i32_w]
       rfl
      refine take_ (i := 1) (N := some 48) (v := ?_) (a' := ?_) #[true, true, false, false, false] rfl rfl (by kernel_rfl) (fun _ _ _ h => h) (Or.inl ⟨by rfl, ?_⟩) hHeld ?_ ?_
      rotate_left
      ·rintro w' ⟨s0, s1, s2, s3, s4, s5, s6, s7⟩
       go_simp
       with_reducible rfl
      rotate_left
      ·simp only [Act.put, sA_, sB_, sC_, i64_w, i32_w]
       rfl
      refine one_ (i := 2) (N := some 49) #[true, true, true, false, false] rfl rfl (by kernel_rfl) (by decide) (fun K hK => ?_)
      refine goes_ Try.func39 (by kernel_rfl) rfl #[.agg #[.int .i64 a0_0, .int .i64 a0_1, .int .i64 a0_2, .slice A0_3 l0_3.length c0_3]] (by rfl) rfl rfl argS ?_
      with_reducible refine (laws_toBoard.calls kj15 a0_0 a0_1 a0_2 _ _ l0_3 tCe tCf tCg tCh _ ?side1 ?side2 A77.out).mono ?_
      (case side1 => exact Kd.C_up (Kd.C_below HR0_3.out HB.out))
      (case side2 => exact HC0_3.out)
      rintro e w83 ⟨vCi, rfl, ho0, hb⟩
      refine ⟨_, rfl, ?_⟩
      have n0_ := Aside0.mk (Kd.R_elder' (Kd.R_up HO_BW003.out) (Kd.R_base ho0) hb)
      have n1_ := Aside0.mk (Kd.R_elder' (Kd.R_up HO_C3003.out) (Kd.R_base ho0) hb)
      have n2_ := Aside0.mk (Kd.R_elder' (Kd.R_up HO_Cd003.out) (Kd.R_base ho0) hb)
      have n3_ := Aside0.mk (Kd.R_lower (Kd.R_new' (Kd.R_new' (Kd.R_new' ho0 (Kd.R_lt (Kd.R_up HO_BW003.out))) (Kd.R_lt (Kd.R_up HO_C3003.out))) (Kd.R_lt (Kd.R_up HO_Cd003.out))) (below_size belS))
      have n4_ := Aside0.mk (blk_below (blk_up BKBD.out) hb)
      have n5_ := Aside0.mk (blk_below (blk_up BKBE.out) hb)
      have n6_ := Aside0.mk (blk_below (blk_up BKBV.out) hb)
      have n7_ := Aside0.mk (blk_below (blk_up BKC2.out) hb)
      have n8_ := Aside0.mk (blk_below (blk_up BKCc.out) hb)
      have n9_ := Aside0.mk (below_step belS hb)
      clear HO_BW003
      clear HO_C3003
      clear HO_Cd003
      clear BKBD
      clear BKBE
      clear BKBV
      clear BKC2
      clear BKCc
      clear HB
      have HO_BW003 := n0_
      have HO_C3003 := n1_
      have HO_Cd003 := n2_
      have HOCj := n3_
      have BKBD := n4_
      have BKBE := n5_
      have BKBV := n6_
      have BKC2 := n7_
      have BKCc := n8_
      have HB := n9_
      clear n0_ n1_ n2_ n3_ n4_ n5_ n6_ n7_ n8_ n9_
      (try clear hb)
      (try clear hb2)
      (try clear hk)
      (try clear hi)
      (try clear ho0)
      obtain ⟨Ao84, co84, eo84⟩ := Kd.R_slice HOCj.out
      (first | subst eo84 | (injection eo84 with f1_ f2_ f3_; have f4_ := f1_.symm; have f5_ := f3_.symm; clear f1_ f2_ f3_; subst f4_; subst f5_))
      refine hK.out _ _ ⟨(blk_cell BKC2.out 0).trans rfl, (blk_cell BKC2.out 1).trans rfl, (blk_cell BKC2.out 2).trans rfl, (blk_cell BKC2.out 3).trans rfl, (blk_cell BKBD.out 0).trans rfl, (blk_cell BKBD.out 1).trans rfl, (blk_cell BKBD.out 2).trans rfl, (blk_cell BKBD.out 3).trans rfl⟩ (fun hHeld => ?_)
      clear hK K
      refine norm_ (a' := ?_) ?_ ?_
      rotate_left
      ·show Act.put _ (some 49) _ = _
       simp only [Act.put, sA_, sB_, sC_, i64_w, i32_w]
       rfl
      refine one_ (i := 3) (N := some 50) #[true, true, true, true, false] rfl rfl (by kernel_rfl) (by decide) (fun K hK => ?_)
      refine goes_ Try.func42 (by kernel_rfl) rfl #[.agg #[.int .i64 tBW, .int .i64 tBX, .int .i64 tBY, .slice Ao42 tBZ.length co42], .agg #[.int .i64 tCe, .int .i64 tCf, .int .i64 tCg, .slice Ao84 tCh.length co84]] (by rfl) rfl rfl argS ?_
      with_reducible refine (laws_eqBoard.calls kj15 tBW tBX tBY _ _ tBZ tCe tCf tCg _ _ tCh true _ ?side1 ?side2 ?side3 ?side4 A78.out).mono ?_
      (case side1 => exact Kd.C_up (Kd.R_reads' HO_C3003.out).2.2)
      (case side2 => exact (Kd.R_reads' HO_C3003.out).2.1)
      (case side3 => exact Kd.C_up (Kd.R_reads' HOCj.out).2.2)
      (case side4 => exact (Kd.R_reads' HOCj.out).2.1)
      rintro e w85 ⟨rfl, hb⟩
      refine ⟨_, rfl, ?_⟩
      have n0_ := Aside0.mk (Kd.R_below (Kd.R_up HO_BW003.out) hb)
      have n1_ := Aside0.mk (Kd.R_below (Kd.R_up HO_C3003.out) hb)
      have n2_ := Aside0.mk (Kd.R_below (Kd.R_up HO_Cd003.out) hb)
      have n3_ := Aside0.mk (Kd.R_below (Kd.R_up HOCj.out) hb)
      have n4_ := Aside0.mk (blk_below (blk_up BKBD.out) hb)
      have n5_ := Aside0.mk (blk_below (blk_up BKBE.out) hb)
      have n6_ := Aside0.mk (blk_below (blk_up BKBV.out) hb)
      have n7_ := Aside0.mk (blk_below (blk_up BKC2.out) hb)
      have n8_ := Aside0.mk (blk_below (blk_up BKCc.out) hb)
      have n9_ := Aside0.mk (below_step belS hb)
      clear HO_BW003
      clear HO_C3003
      clear HO_Cd003
      clear HOCj
      clear BKBD
      clear BKBE
      clear BKBV
      clear BKC2
      clear BKCc
      clear HB
      have HO_BW003 := n0_
      have HO_C3003 := n1_
      have HO_Cd003 := n2_
      have HOCj := n3_
      have BKBD := n4_
      have BKBE := n5_
      have BKBV := n6_
      have BKC2 := n7_
      have BKCc := n8_
      have HB := n9_
      clear n0_ n1_ n2_ n3_ n4_ n5_ n6_ n7_ n8_ n9_
      (try clear hb)
      (try clear hb2)
      (try clear hk)
      (try clear hi)
      refine hK.out _ _ ⟨(blk_cell BKC2.out 0).trans rfl, (blk_cell BKC2.out 1).trans rfl, (blk_cell BKC2.out 2).trans rfl, (blk_cell BKC2.out 3).trans rfl, (blk_cell BKBD.out 0).trans rfl, (blk_cell BKBD.out 1).trans rfl, (blk_cell BKBD.out 2).trans rfl, (blk_cell BKBD.out 3).trans rfl⟩ (fun hHeld => ?_)
      clear hK K
      refine norm_ (a' := ?_) ?_ ?_
      rotate_left
      ·show Act.put _ (some 50) _ = _
       simp only [Act.put, sA_, sB_, sC_, i64_w, i32_w]
       rfl
      refine pure_ (i := 4) (N := some 51) (v := ?_) (a' := ?_) #[true, true, true, true, true] rfl rfl (by kernel_rfl) (fun _ _ _ h => h) (Or.inl ⟨by rfl, ?_⟩) ?_ ?_
      rotate_left
      ·intro w'
       go_simp
       with_reducible rfl
      rotate_left
      ·simp only [Act.put, sA_, sB_, sC_, i64_w, i32_w]
       rfl
      refine done_ (by kernel_rfl) ?_
      have hnb86 := NBC2_BD.out
      have hnc86 := NBBD_C2.out
      have hnb87 := NBC2_BE.out
      have hnc87 := NBBE_C2.out
      have hnb88 := NBC2_BV.out
      have hnc88 := NBBV_C2.out
      have hnb89 := NBC2_Cc.out
      have hnc89 := NBCc_C2.out
      obtain ⟨hcz90_0, hcz90_1, hcz90_2, hcz90_3, hfz90_0, hfz90_1, hfz90_2, hfz90_3⟩ := blk4 BKC2.out
      go_upto_region 14 with (first | ((with_reducible refine gate_callee (f := 47) rfl ?_); refine goesL_ (some 54) rfl rfl Try.func47 (by kernel_rfl) rfl #[.agg #[.int .i64 tBW, .int .i64 tBX, .int .i64 tBY, .slice Ao42 tBZ.length co42], .int .i64 1] rfl argS ?_; (with_reducible refine (laws_markBoard.calls kj15 tBW tBX tBY (fun k_ => some k_ = (.slice Ao42 tBZ.length co42 : Value).ownBlock) (.slice Ao42 tBZ.length co42) tBZ 1 tCl tCm w _ ?side1 ?side2 A80.out).mono ?_); (case side1 => exact belS); (case side2 => exact Kd.R_tight rfl HO_C3003.out); rintro e w91 ⟨rfl, hy0, hb, hkp⟩; refine ⟨_, rfl, ?_⟩; have n0_ := Aside0.mk (Kd.R_mono (ok' := fun k_ => some k_ ≠ (.slice Ao42 tBZ.length co42 : Value).ownBlock ∧ some k_ ≠ (.slice Ao52 tC8.length co52 : Value).ownBlock ∧ some k_ ≠ (.slice Ao84 tCh.length co84 : Value).ownBlock) (Kd.R_keptB (HO_BW003.out) hkp (fun k_ hk_ hs_ => (hk_.1.1) hs_)) (fun k_ hk_ => ⟨hk_.1.1.1, hk_.1.1.2, hk_.1.2⟩)); have n1_ := Aside0.mk (Kd.R_reok rfl hy0 (fun k_ e_ => HO_C3003.out.1 k_ e_)); have n2_ := Aside0.mk (Kd.R_mono (ok' := fun k_ => some k_ ≠ (.slice Ao32 tBR.length co32 : Value).ownBlock ∧ some k_ ≠ (.slice Ao42 tBZ.length co42 : Value).ownBlock ∧ some k_ ≠ (.slice Ao84 tCh.length co84 : Value).ownBlock) (Kd.R_keptB (HO_Cd003.out) hkp (fun k_ hk_ hs_ => (hk_.1.2) hs_)) (fun k_ hk_ => ⟨hk_.1.1.1, hk_.1.1.2, hk_.1.2⟩)); have n3_ := Aside0.mk (blk_kept (blk_up BKBD.out) hkp (fun hs_ => (fun e_ => (Kd.R_ne HO_C3003.out BKBD.out (by decide)) e_) hs_)); have n4_ := Aside0.mk (blk_kept (blk_up BKBE.out) hkp (fun hs_ => (fun e_ => (Kd.R_ne HO_C3003.out BKBE.out (by decide)) e_) hs_)); have n5_ := Aside0.mk (blk_kept (blk_up BKBV.out) hkp (fun hs_ => (fun e_ => (Kd.R_ne HO_C3003.out BKBV.out (by decide)) e_) hs_)); have n6_ := Aside0.mk (blk_kept (blk_up BKC2.out) hkp (fun hs_ => (fun e_ => (Kd.R_ne HO_C3003.out BKC2.out (by decide)) e_) hs_)); have n7_ := Aside0.mk (blk_kept (blk_up BKCc.out) hkp (fun hs_ => (fun e_ => (Kd.R_ne HO_C3003.out BKCc.out (by decide)) e_) hs_)); have n8_ := Aside0.mk (Kd.R_mono (ok' := fun k_ => some k_ ≠ (.slice Ao32 tBR.length co32 : Value).ownBlock ∧ some k_ ≠ (.slice Ao42 tBZ.length co42 : Value).ownBlock ∧ some k_ ≠ (.slice Ao52 tC8.length co52 : Value).ownBlock) (Kd.R_keptB (HOCj.out) hkp (fun k_ hk_ hs_ => (hk_.1.2) hs_)) (fun k_ hk_ => ⟨hk_.1.1.1.2, hk_.1.1.2, hk_.1.2⟩)); have n9_ := Aside0.mk (hb); clear HO_BW003 HO_C3003 HO_Cd003 BKBD BKBE BKBV BKC2 BKCc HOCj HB; revert n0_ n1_ n2_ n3_ n4_ n5_ n6_ n7_ n8_ n9_; intro HO_BW003 HO_C3003 HO_Cd003 BKBD BKBE BKBV BKC2 BKCc HOCj HB; (try clear hb); (try clear hkp); (try clear hy0)))
      (try simp only [Act.put, sA_, sB_, sC_])
      go_cut [67] (fun v67 wc => ∃ (kq : Nat) (x67_80 : Bool), v67 = .bool x67_80 ∧ Aside0 (laws_FnExactAddJump.j1 kq tBU x67_80 a0_0 a0_1 a0_2 l0_3 a1_0 a1_1 tBO tBP tBQ tBR tC5 tC6 tC7 tC8 = some r) ∧ Aside0 (kq ≤ kj15) ∧ Aside0 (Kd.R k27 27 wc w.heap.size (fun k_ => some k_ ≠ ((.slice Ao42 tBZ.length co42) : Value).ownBlock ∧ some k_ ≠ ((.slice Ao52 tC8.length co52) : Value).ownBlock) (.slice Ao32 tBR.length co32) tBR) ∧ Aside0 (Kd.R k27 27 wc w.heap.size (fun k_ => some k_ ≠ ((.slice Ao32 tBR.length co32) : Value).ownBlock ∧ some k_ ≠ ((.slice Ao52 tC8.length co52) : Value).ownBlock) (.slice Ao42 tBZ.length co42) tCm) ∧ Aside0 (Kd.R k27 27 wc w.heap.size (fun k_ => some k_ ≠ ((.slice Ao32 tBR.length co32) : Value).ownBlock ∧ some k_ ≠ ((.slice Ao42 tBZ.length co42) : Value).ownBlock) (.slice Ao52 tC8.length co52) tC8) ∧ Aside0 (wc.heap[gbBD]? = some (.cells #[.int .i64 a0_0, .int .i64 a0_1, .int .i64 a0_2, (.slice A0_3 l0_3.length c0_3)] 24 (0, 0))) ∧ Aside0 (wc.heap[gbBE]? = some (.cells #[.int .i64 a1_0, .int .i64 a1_1] 82 (0, 0))) ∧ Aside0 (wc.heap[gbBV]? = some (.cells #[.int .i64 tBO, .int .i64 tBP, .int .i64 tBQ, (.slice Ao32 tBR.length co32)] 32 (0, 0))) ∧ Aside0 (wc.heap[gbC2]? = some (.cells #[.int .i64 tBW, .int .i64 tBX, .int .i64 tBY, (.slice Ao42 tBZ.length co42)] 32 (0, 0))) ∧ Aside0 (wc.heap[gbCc]? = some (.cells #[.int .i64 tC5, .int .i64 tC6, .int .i64 tC7, (.slice Ao52 tC8.length co52)] 32 (0, 0))) ∧ Aside0 (Below w.heap.size w wc))
      case first =>
       have H := HC81.out
       clear HC81
       by_cases c92 : tCl < 0
       ·rw [if_pos c92] at H
        have c92b0 : decide (tCl < 0) = true := decide_eq_true c92
        clear c92
        (first | rw [c92b0] | (simp only [i64_w, i32_w]; rw [c92b0]) | skip)
        have H' := Aside0.mk H
        clear H
        go_wp2
        go_meet
        case rel => exact ⟨_, (true), (by first | rfl | (simp; done) | (simp [*]; done)), H', ⟨by have := HJ15.out; first | omega | exact Nat.le_refl _⟩, ⟨by (with_reducible repeat (first | apply Kd.R_alloc | apply Kd.R_drewN | apply Kd.R_drew)); exact Kd.R_mono HO_BW003.out (fun _ hk => ⟨hk.1, hk.2.1⟩)⟩, ⟨by (with_reducible repeat (first | apply Kd.R_alloc | apply Kd.R_drewN | apply Kd.R_drew)); exact Kd.R_mono HO_C3003.out (fun _ hk => ⟨hk.1.1, hk.1.2⟩)⟩, ⟨by (with_reducible repeat (first | apply Kd.R_alloc | apply Kd.R_drewN | apply Kd.R_drew)); exact Kd.R_mono HO_Cd003.out (fun _ hk => ⟨hk.1, hk.2.1⟩)⟩, ⟨by (with_reducible repeat (first | refine blk_drewN ?_ _ | refine blk_drew ?_ | refine blk_alloc ?_ _)); exact BKBD.out⟩, ⟨by (with_reducible repeat (first | refine blk_drewN ?_ _ | refine blk_drew ?_ | refine blk_alloc ?_ _)); exact BKBE.out⟩, ⟨by (with_reducible repeat (first | refine blk_drewN ?_ _ | refine blk_drew ?_ | refine blk_alloc ?_ _)); exact BKBV.out⟩, ⟨by (with_reducible repeat (first | refine blk_drewN ?_ _ | refine blk_drew ?_ | refine blk_alloc ?_ _)); exact BKC2.out⟩, ⟨by (with_reducible repeat (first | refine blk_drewN ?_ _ | refine blk_drew ?_ | refine blk_alloc ?_ _)); exact BKCc.out⟩, ⟨by exact belS⟩⟩
       ·rw [if_neg c92] at H
        have c92b0 : decide (tCl < 0) = false := decide_eq_false c92
        clear c92
        (first | rw [c92b0] | (simp only [i64_w, i32_w]; rw [c92b0]) | skip)
        replace H := Option.bind_eq_some_iff.mp H
        obtain ⟨tCn, A930, H⟩ := H
        replace H : (if tCn = true then (laws_FnExactAddJump.j1 kj15 tBU (tCb != tBU) a0_0 a0_1 a0_2 l0_3 a1_0 a1_1 tBO tBP tBQ tBR tC5 tC6 tC7 tC8) else (laws_FnExactAddJump.j1 kj15 tBU true a0_0 a0_1 a0_2 l0_3 a1_0 a1_1 tBO tBP tBQ tBR tC5 tC6 tC7 tC8)) = some r := H
        have A93 := Aside0.mk A930
        clear A930
        by_cases c94 : tCn = true
        ·subst c94
         have H1 : (laws_FnExactAddJump.j1 kj15 tBU (tCb != tBU) a0_0 a0_1 a0_2 l0_3 a1_0 a1_1 tBO tBP tBQ tBR tC5 tC6 tC7 tC8) = some r := by rw [if_pos rfl] at H; exact H
         clear H
         have H := H1
         clear H1
         have H' := Aside0.mk H
         clear H
         have hnb95 := NBCc_BD.out
         have hnc95 := NBBD_Cc.out
         have hnb96 := NBCc_BE.out
         have hnc96 := NBBE_Cc.out
         have hnb97 := NBCc_BV.out
         have hnc97 := NBBV_Cc.out
         have hnb98 := NBCc_C2.out
         have hnc98 := NBC2_Cc.out
         obtain ⟨hcz99_0, hcz99_1, hcz99_2, hcz99_3, hfz99_0, hfz99_1, hfz99_2, hfz99_3⟩ := blk4 BKCc.out
         have hnb100 := NBBV_BD.out
         have hnc100 := NBBD_BV.out
         have hnb101 := NBBV_BE.out
         have hnc101 := NBBE_BV.out
         have hnb102 := NBBV_C2.out
         have hnc102 := NBC2_BV.out
         obtain ⟨hcz103_0, hcz103_1, hcz103_2, hcz103_3, hfz103_0, hfz103_1, hfz103_2, hfz103_3⟩ := blk4 BKBV.out
         go_wp2_with (first | (go_at_call 42; (with_reducible refine (laws_eqBoard.calls kj15 tC5 tC6 tC7 _ _ tC8 tBO tBP tBQ _ _ tBR true _ ?side1 ?side2 ?side3 ?side4 A93.out).mono ?_); (case side1 => exact Kd.C_up (Kd.R_reads' HO_Cd003.out).2.2); (case side2 => exact (Kd.R_reads' HO_Cd003.out).2.1); (case side3 => exact Kd.C_up (Kd.R_reads' HO_BW003.out).2.2); (case side4 => exact (Kd.R_reads' HO_BW003.out).2.1); rintro e w104 ⟨rfl, hb⟩; have n0_ := Aside0.mk (Kd.R_below (Kd.R_up HO_BW003.out) hb); have n1_ := Aside0.mk (Kd.R_below (Kd.R_up HO_C3003.out) hb); have n2_ := Aside0.mk (Kd.R_below (Kd.R_up HO_Cd003.out) hb); have n3_ := Aside0.mk (Kd.R_below (Kd.R_up HOCj.out) hb); have n4_ := Aside0.mk (blk_below (blk_up BKBD.out) hb); have n5_ := Aside0.mk (blk_below (blk_up BKBE.out) hb); have n6_ := Aside0.mk (blk_below (blk_up BKBV.out) hb); have n7_ := Aside0.mk (blk_below (blk_up BKC2.out) hb); have n8_ := Aside0.mk (blk_below (blk_up BKCc.out) hb); have n9_ := Aside0.mk (below_step belS hb); clear HO_BW003 HO_C3003 HO_Cd003 HOCj BKBD BKBE BKBV BKC2 BKCc HB; revert n0_ n1_ n2_ n3_ n4_ n5_ n6_ n7_ n8_ n9_; intro HO_BW003 HO_C3003 HO_Cd003 HOCj BKBD BKBE BKBV BKC2 BKCc HB; (try clear hb); (try clear hb2); (try clear hk); (try clear hi)))
         go_meet
         case rel => exact ⟨_, ((tCb != tBU)), (by first | rfl | (simp; done) | (simp [*]; done)), H', ⟨by have := HJ15.out; first | omega | exact Nat.le_refl _⟩, ⟨by (with_reducible repeat (first | apply Kd.R_alloc | apply Kd.R_drewN | apply Kd.R_drew)); exact Kd.R_mono HO_BW003.out (fun _ hk => ⟨hk.1, hk.2.1⟩)⟩, ⟨by (with_reducible repeat (first | apply Kd.R_alloc | apply Kd.R_drewN | apply Kd.R_drew)); exact Kd.R_mono HO_C3003.out (fun _ hk => ⟨hk.1.1, hk.1.2⟩)⟩, ⟨by (with_reducible repeat (first | apply Kd.R_alloc | apply Kd.R_drewN | apply Kd.R_drew)); exact Kd.R_mono HO_Cd003.out (fun _ hk => ⟨hk.1, hk.2.1⟩)⟩, ⟨by (with_reducible repeat (first | refine blk_drewN ?_ _ | refine blk_drew ?_ | refine blk_alloc ?_ _)); exact BKBD.out⟩, ⟨by (with_reducible repeat (first | refine blk_drewN ?_ _ | refine blk_drew ?_ | refine blk_alloc ?_ _)); exact BKBE.out⟩, ⟨by (with_reducible repeat (first | refine blk_drewN ?_ _ | refine blk_drew ?_ | refine blk_alloc ?_ _)); exact BKBV.out⟩, ⟨by (with_reducible repeat (first | refine blk_drewN ?_ _ | refine blk_drew ?_ | refine blk_alloc ?_ _)); exact BKC2.out⟩, ⟨by (with_reducible repeat (first | refine blk_drewN ?_ _ | refine blk_drew ?_ | refine blk_alloc ?_ _)); exact BKCc.out⟩, ⟨by exact belS⟩⟩
        ·replace c94 := Bool.eq_false_iff.mpr c94
         subst c94
         have H1 : (laws_FnExactAddJump.j1 kj15 tBU true a0_0 a0_1 a0_2 l0_3 a1_0 a1_1 tBO tBP tBQ tBR tC5 tC6 tC7 tC8) = some r := by rw [if_neg (show ¬ (false = true) by decide)] at H; exact H
         clear H
         have H := H1
         clear H1
         have H' := Aside0.mk H
         clear H
         have hnb105 := NBCc_BD.out
         have hnc105 := NBBD_Cc.out
         have hnb106 := NBCc_BE.out
         have hnc106 := NBBE_Cc.out
         have hnb107 := NBCc_BV.out
         have hnc107 := NBBV_Cc.out
         have hnb108 := NBCc_C2.out
         have hnc108 := NBC2_Cc.out
         obtain ⟨hcz109_0, hcz109_1, hcz109_2, hcz109_3, hfz109_0, hfz109_1, hfz109_2, hfz109_3⟩ := blk4 BKCc.out
         have hnb110 := NBBV_BD.out
         have hnc110 := NBBD_BV.out
         have hnb111 := NBBV_BE.out
         have hnc111 := NBBE_BV.out
         have hnb112 := NBBV_C2.out
         have hnc112 := NBC2_BV.out
         obtain ⟨hcz113_0, hcz113_1, hcz113_2, hcz113_3, hfz113_0, hfz113_1, hfz113_2, hfz113_3⟩ := blk4 BKBV.out
         go_wp2_with (first | (go_at_call 42; (with_reducible refine (laws_eqBoard.calls kj15 tC5 tC6 tC7 _ _ tC8 tBO tBP tBQ _ _ tBR false _ ?side1 ?side2 ?side3 ?side4 A93.out).mono ?_); (case side1 => exact Kd.C_up (Kd.R_reads' HO_Cd003.out).2.2); (case side2 => exact (Kd.R_reads' HO_Cd003.out).2.1); (case side3 => exact Kd.C_up (Kd.R_reads' HO_BW003.out).2.2); (case side4 => exact (Kd.R_reads' HO_BW003.out).2.1); rintro e w114 ⟨rfl, hb⟩; have n0_ := Aside0.mk (Kd.R_below (Kd.R_up HO_BW003.out) hb); have n1_ := Aside0.mk (Kd.R_below (Kd.R_up HO_C3003.out) hb); have n2_ := Aside0.mk (Kd.R_below (Kd.R_up HO_Cd003.out) hb); have n3_ := Aside0.mk (Kd.R_below (Kd.R_up HOCj.out) hb); have n4_ := Aside0.mk (blk_below (blk_up BKBD.out) hb); have n5_ := Aside0.mk (blk_below (blk_up BKBE.out) hb); have n6_ := Aside0.mk (blk_below (blk_up BKBV.out) hb); have n7_ := Aside0.mk (blk_below (blk_up BKC2.out) hb); have n8_ := Aside0.mk (blk_below (blk_up BKCc.out) hb); have n9_ := Aside0.mk (below_step belS hb); clear HO_BW003 HO_C3003 HO_Cd003 HOCj BKBD BKBE BKBV BKC2 BKCc HB; revert n0_ n1_ n2_ n3_ n4_ n5_ n6_ n7_ n8_ n9_; intro HO_BW003 HO_C3003 HO_Cd003 HOCj BKBD BKBE BKBV BKC2 BKCc HB; (try clear hb); (try clear hb2); (try clear hk); (try clear hi)))
         go_meet
         case rel => exact ⟨_, (true), (by first | rfl | (simp; done) | (simp [*]; done)), H', ⟨by have := HJ15.out; first | omega | exact Nat.le_refl _⟩, ⟨by (with_reducible repeat (first | apply Kd.R_alloc | apply Kd.R_drewN | apply Kd.R_drew)); exact Kd.R_mono HO_BW003.out (fun _ hk => ⟨hk.1, hk.2.1⟩)⟩, ⟨by (with_reducible repeat (first | apply Kd.R_alloc | apply Kd.R_drewN | apply Kd.R_drew)); exact Kd.R_mono HO_C3003.out (fun _ hk => ⟨hk.1.1, hk.1.2⟩)⟩, ⟨by (with_reducible repeat (first | apply Kd.R_alloc | apply Kd.R_drewN | apply Kd.R_drew)); exact Kd.R_mono HO_Cd003.out (fun _ hk => ⟨hk.1, hk.2.1⟩)⟩, ⟨by (with_reducible repeat (first | refine blk_drewN ?_ _ | refine blk_drew ?_ | refine blk_alloc ?_ _)); exact BKBD.out⟩, ⟨by (with_reducible repeat (first | refine blk_drewN ?_ _ | refine blk_drew ?_ | refine blk_alloc ?_ _)); exact BKBE.out⟩, ⟨by (with_reducible repeat (first | refine blk_drewN ?_ _ | refine blk_drew ?_ | refine blk_alloc ?_ _)); exact BKBV.out⟩, ⟨by (with_reducible repeat (first | refine blk_drewN ?_ _ | refine blk_drew ?_ | refine blk_alloc ?_ _)); exact BKC2.out⟩, ⟨by (with_reducible repeat (first | refine blk_drewN ?_ _ | refine blk_drew ?_ | refine blk_alloc ?_ _)); exact BKCc.out⟩, ⟨by exact belS⟩⟩
      case rest =>
       clear HC81
       try clear c1
       try clear p2
       try clear c3
       try clear c4
       try clear c5
       try clear c6
       try clear c7
       try clear c8
       try clear c9
       try clear c10
       try clear c11
       try clear c39
       try clear c42
       try clear c47
       try clear c55
       try clear c56
       try clear c57
       try clear c58
       try clear c59
       try clear c61
       try clear c62
       try clear c63
       try clear c66
       try clear c67
       try clear c68
       try clear c69
       try clear c71
       try clear c72
       try clear c73
       try clear c76
       try clear c79
       try clear c86
       try clear c87
       try clear c88
       try clear c89
       try clear c92
       try clear c92b0
       try clear c94
       try clear c95
       try clear c96
       try clear c97
       try clear c98
       try clear c100
       try clear c101
       try clear c102
       try clear c105
       try clear c106
       try clear c107
       try clear c108
       try clear c110
       try clear c111
       try clear c112
       try clear hcz103_0 hcz103_1 hcz103_2 hcz103_3
       try clear hcz109_0 hcz109_1 hcz109_2 hcz109_3
       try clear hcz113_0 hcz113_1 hcz113_2 hcz113_3
       try clear hcz60_0 hcz60_1 hcz60_2 hcz60_3
       try clear hcz64_0 hcz64_1 hcz64_2 hcz64_3
       try clear hcz70_0 hcz70_1 hcz70_2 hcz70_3
       try clear hcz74_0 hcz74_1 hcz74_2 hcz74_3
       try clear hcz90_0 hcz90_1 hcz90_2 hcz90_3
       try clear hcz99_0 hcz99_1 hcz99_2 hcz99_3
       try clear hfz103_0 hfz103_1 hfz103_2 hfz103_3
       try clear hfz109_0 hfz109_1 hfz109_2 hfz109_3
       try clear hfz113_0 hfz113_1 hfz113_2 hfz113_3
       try clear hfz60_0 hfz60_1 hfz60_2 hfz60_3
       try clear hfz64_0 hfz64_1 hfz64_2 hfz64_3
       try clear hfz70_0 hfz70_1 hfz70_2 hfz70_3
       try clear hfz74_0 hfz74_1 hfz74_2 hfz74_3
       try clear hfz90_0 hfz90_1 hfz90_2 hfz90_3
       try clear hfz99_0 hfz99_1 hfz99_2 hfz99_3
       try clear p2
       obtain ⟨kq, x67_80, rfl, HA, HJ80, HO_BW003, HO_C3003, HO_Cd003, BKBD, BKBE, BKBV, BKC2, BKCc, HB⟩ := hcut
       have hlC3003_80 := (Kd.R_reads' HO_C3003.out).1
       rw [hlC3003_80] at HO_C3003
       (try simp only [hlC3003_80])
       (try simp only [hlC3003_80] at BKBD)
       (try simp only [hlC3003_80] at BKBE)
       (try simp only [hlC3003_80] at BKBV)
       (try simp only [hlC3003_80] at BKC2)
       (try simp only [hlC3003_80] at BKCc)
       (try simp only [hlC3003_80] at HO_BW003)
       (try simp only [hlC3003_80] at HO_Cd003)
       cases kq with
       | zero => exact absurd HA.out (by simp [laws_FnExactAddJump.j1])
       | succ kj80 =>
        have H := HA.out
        clear HA
        simp only [laws_FnExactAddJump.j1] at H
        by_cases c115 : x67_80 = true
        ·subst c115
         have H1 : (some false) = some r := by rw [if_pos rfl] at H; exact H
         clear H
         have H := H1
         clear H1
         obtain rfl := Option.some.inj H
         go_wp2
         go_ret
         exact ⟨by first | rfl | (simp [errW_none, errW_some] <;> rfl) | (simp [*, errW_none, errW_some] <;> rfl), by exact belS⟩
        ·replace c115 := Bool.eq_false_iff.mpr c115
         subst c115
         have H1 : ((laws_markBoard.f kj80 tC5 tC6 tC7 tC8 1).bind fun btCo => ((laws_heldBoard.f kj80 tC5 tC6 tC7 btCo.2 1).bind fun tCq => (if tCq < 0 then (some false) else (if tCq = btCo.1 then ((laws_toBoard.f kj80 a0_0 a0_1 a0_2 l0_3).bind fun btCr => ((laws_toJump.f a1_0 a1_1).bind fun btCx => ((impl_AddJump.f kj80 btCr.1 btCr.2.1 btCr.2.2.1 btCr.2.2.2 btCx.1 btCx.2).bind fun btCz => ((laws_eqBoard.f kj80 btCz.1 btCz.2.1 btCz.2.2.1 btCz.2.2.2.1 tBO tBP tBQ tBR).bind fun tCH => (if tCH = true then (laws_FnExactAddJump.j2 kj80 btCo.1 (btCz.2.2.2.2 != tBU) tC5 tC6 tC7 btCo.2) else (laws_FnExactAddJump.j2 kj80 btCo.1 true tC5 tC6 tC7 btCo.2)))))) else (some false))))) = some r := by rw [if_neg (show ¬ (false = true) by decide)] at H; exact H
         clear H
         have H := H1
         clear H1
         replace H := Option.bind_eq_some_iff.mp H
         obtain ⟨⟨tCo, tCp⟩, A1160, H⟩ := H
         replace H : ((laws_heldBoard.f kj80 tC5 tC6 tC7 tCp 1).bind fun tCq => (if tCq < 0 then (some false) else (if tCq = tCo then ((laws_toBoard.f kj80 a0_0 a0_1 a0_2 l0_3).bind fun btCr => ((laws_toJump.f a1_0 a1_1).bind fun btCx => ((impl_AddJump.f kj80 btCr.1 btCr.2.1 btCr.2.2.1 btCr.2.2.2 btCx.1 btCx.2).bind fun btCz => ((laws_eqBoard.f kj80 btCz.1 btCz.2.1 btCz.2.2.1 btCz.2.2.2.1 tBO tBP tBQ tBR).bind fun tCH => (if tCH = true then (laws_FnExactAddJump.j2 kj80 tCo (btCz.2.2.2.2 != tBU) tC5 tC6 tC7 tCp) else (laws_FnExactAddJump.j2 kj80 tCo true tC5 tC6 tC7 tCp)))))) else (some false)))) = some r := H
         have A116 := Aside0.mk A1160
         clear A1160
         replace H := Option.bind_eq_some_iff.mp H
         obtain ⟨tCq, A1170, H⟩ := H
         replace H : (if tCq < 0 then (some false) else (if tCq = tCo then ((laws_toBoard.f kj80 a0_0 a0_1 a0_2 l0_3).bind fun btCr => ((laws_toJump.f a1_0 a1_1).bind fun btCx => ((impl_AddJump.f kj80 btCr.1 btCr.2.1 btCr.2.2.1 btCr.2.2.2 btCx.1 btCx.2).bind fun btCz => ((laws_eqBoard.f kj80 btCz.1 btCz.2.1 btCz.2.2.1 btCz.2.2.2.1 tBO tBP tBQ tBR).bind fun tCH => (if tCH = true then (laws_FnExactAddJump.j2 kj80 tCo (btCz.2.2.2.2 != tBU) tC5 tC6 tC7 tCp) else (laws_FnExactAddJump.j2 kj80 tCo true tC5 tC6 tC7 tCp)))))) else (some false))) = some r := H
         have A117 := Aside0.mk A1170
         clear A1170
         by_cases c118 : tCq < 0
         ·rw [if_pos c118] at H
          have c118b0 : decide (tCq < 0) = true := decide_eq_true c118
          clear c118
          obtain rfl := Option.some.inj H
          have hnb119 := NBCc_BD.out
          have hnc119 := NBBD_Cc.out
          have hnb120 := NBCc_BE.out
          have hnc120 := NBBE_Cc.out
          have hnb121 := NBCc_BV.out
          have hnc121 := NBBV_Cc.out
          have hnb122 := NBCc_C2.out
          have hnc122 := NBC2_Cc.out
          obtain ⟨hcz123_0, hcz123_1, hcz123_2, hcz123_3, hfz123_0, hfz123_1, hfz123_2, hfz123_3⟩ := blk4 BKCc.out
          go_wp2_with (first | ((with_reducible refine gate_callee (f := 47) rfl ?_); refine goesL_ (some 70) rfl rfl Try.func47 (by kernel_rfl) rfl #[.agg #[.int .i64 tC5, .int .i64 tC6, .int .i64 tC7, .slice Ao52 tC8.length co52], .int .i64 1] rfl argS ?_; (with_reducible refine (laws_markBoard.calls kj80 tC5 tC6 tC7 (fun k_ => some k_ = (.slice Ao52 tC8.length co52 : Value).ownBlock) (.slice Ao52 tC8.length co52) tC8 1 tCo tCp w _ ?side1 ?side2 A116.out).mono ?_); (case side1 => exact belS); (case side2 => exact Kd.R_tight rfl HO_Cd003.out); rintro e w124 ⟨rfl, hy0, hb, hkp⟩; refine ⟨_, rfl, ?_⟩; have n0_ := Aside0.mk (Kd.R_mono (ok' := fun k_ => some k_ ≠ (.slice Ao42 tCm.length co42 : Value).ownBlock ∧ some k_ ≠ (.slice Ao52 tC8.length co52 : Value).ownBlock) (Kd.R_keptB (HO_BW003.out) hkp (fun k_ hk_ hs_ => (hk_.2) hs_)) (fun k_ hk_ => ⟨hk_.1.1, hk_.1.2⟩)); have n1_ := Aside0.mk (Kd.R_mono (ok' := fun k_ => some k_ ≠ (.slice Ao32 tBR.length co32 : Value).ownBlock ∧ some k_ ≠ (.slice Ao52 tC8.length co52 : Value).ownBlock) (Kd.R_keptB (HO_C3003.out) hkp (fun k_ hk_ hs_ => (hk_.2) hs_)) (fun k_ hk_ => ⟨hk_.1.1, hk_.1.2⟩)); have n2_ := Aside0.mk (Kd.R_reok rfl hy0 (fun k_ e_ => HO_Cd003.out.1 k_ e_)); have n3_ := Aside0.mk (blk_kept (blk_up BKBD.out) hkp (fun hs_ => (fun e_ => (Kd.R_ne HO_Cd003.out BKBD.out (by decide)) e_) hs_)); have n4_ := Aside0.mk (blk_kept (blk_up BKBE.out) hkp (fun hs_ => (fun e_ => (Kd.R_ne HO_Cd003.out BKBE.out (by decide)) e_) hs_)); have n5_ := Aside0.mk (blk_kept (blk_up BKBV.out) hkp (fun hs_ => (fun e_ => (Kd.R_ne HO_Cd003.out BKBV.out (by decide)) e_) hs_)); have n6_ := Aside0.mk (blk_kept (blk_up BKC2.out) hkp (fun hs_ => (fun e_ => (Kd.R_ne HO_Cd003.out BKC2.out (by decide)) e_) hs_)); have n7_ := Aside0.mk (blk_kept (blk_up BKCc.out) hkp (fun hs_ => (fun e_ => (Kd.R_ne HO_Cd003.out BKCc.out (by decide)) e_) hs_)); have n8_ := Aside0.mk (hb); clear HO_BW003 HO_C3003 HO_Cd003 BKBD BKBE BKBV BKC2 BKCc HB; revert n0_ n1_ n2_ n3_ n4_ n5_ n6_ n7_ n8_; intro HO_BW003 HO_C3003 HO_Cd003 BKBD BKBE BKBV BKC2 BKCc HB; (try clear hb); (try clear hkp); (try clear hy0); obtain ⟨hcz125_0, hcz125_1, hcz125_2, hcz125_3, hfz125_0, hfz125_1, hfz125_2, hfz125_3⟩ := blk4 BKCc.out) | ((with_reducible refine gate_callee (f := 48) rfl ?_); refine goesL_ (some 73) rfl rfl Try.func48 (by kernel_rfl) rfl #[.agg #[.int .i64 tC5, .int .i64 tC6, .int .i64 tC7, .slice Ao52 tCp.length co52], .int .i64 1] rfl (by (try simp only [List.map_toArray, List.map_cons, List.map_nil]); first | done | (rw [show tCp.length = tC8.length from (Kd.R_reads' HO_Cd003.out).1.symm] <;> rfl) | rfl | (simp only [List.length_drop, List.length_take]; rfl)) ?_; (with_reducible refine (laws_heldBoard.calls kj80 tC5 tC6 tC7 _ _ tCp 1 tCq _ ?side1 ?side2 A117.out).mono ?_); (case side1 => exact Kd.C_up (Kd.R_reads' HO_Cd003.out).2.2); (case side2 => rw [show tCp.length = tC8.length from (Kd.R_reads' HO_Cd003.out).1.symm]; exact (Kd.R_reads' HO_Cd003.out).2.1); rintro e w126 ⟨rfl, hb⟩; refine ⟨_, rfl, ?_⟩; have n0_ := Aside0.mk (Kd.R_below (Kd.R_up HO_BW003.out) hb); have n1_ := Aside0.mk (Kd.R_below (Kd.R_up HO_C3003.out) hb); have n2_ := Aside0.mk (Kd.R_below (Kd.R_up HO_Cd003.out) hb); have n3_ := Aside0.mk (blk_below (blk_up BKBD.out) hb); have n4_ := Aside0.mk (blk_below (blk_up BKBE.out) hb); have n5_ := Aside0.mk (blk_below (blk_up BKBV.out) hb); have n6_ := Aside0.mk (blk_below (blk_up BKC2.out) hb); have n7_ := Aside0.mk (blk_below (blk_up BKCc.out) hb); have n8_ := Aside0.mk (below_step belS hb); clear HO_BW003 HO_C3003 HO_Cd003 BKBD BKBE BKBV BKC2 BKCc HB; revert n0_ n1_ n2_ n3_ n4_ n5_ n6_ n7_ n8_; intro HO_BW003 HO_C3003 HO_Cd003 BKBD BKBE BKBV BKC2 BKCc HB; (try clear hb)))
          go_ret
          exact ⟨by first | rfl | (simp [errW_none, errW_some] <;> rfl) | (simp [*, errW_none, errW_some] <;> rfl), by exact belS⟩
         ·rw [if_neg c118] at H
          have c118b0 : decide (tCq < 0) = false := decide_eq_false c118
          clear c118
          by_cases c127 : tCq = tCo
          ·rw [if_pos c127] at H
           have c127b0 : (tCq == tCo) = true := beq_iff_eq.mpr c127
           have c127b1 : (tCq != tCo) = false := bne_eq_false_iff_eq.mpr c127
           clear c127
           replace H := Option.bind_eq_some_iff.mp H
           obtain ⟨⟨tCr, tCs, tCt, tCu⟩, A1280, H⟩ := H
           replace H : ((laws_toJump.f a1_0 a1_1).bind fun btCx => ((impl_AddJump.f kj80 tCr tCs tCt tCu btCx.1 btCx.2).bind fun btCz => ((laws_eqBoard.f kj80 btCz.1 btCz.2.1 btCz.2.2.1 btCz.2.2.2.1 tBO tBP tBQ tBR).bind fun tCH => (if tCH = true then (laws_FnExactAddJump.j2 kj80 tCo (btCz.2.2.2.2 != tBU) tC5 tC6 tC7 tCp) else (laws_FnExactAddJump.j2 kj80 tCo true tC5 tC6 tC7 tCp))))) = some r := H
           have A128 := Aside0.mk A1280
           clear A1280
           replace H := Option.bind_eq_some_iff.mp H
           obtain ⟨⟨tCx, tCy⟩, A1290, H⟩ := H
           replace H : ((impl_AddJump.f kj80 tCr tCs tCt tCu tCx tCy).bind fun btCz => ((laws_eqBoard.f kj80 btCz.1 btCz.2.1 btCz.2.2.1 btCz.2.2.2.1 tBO tBP tBQ tBR).bind fun tCH => (if tCH = true then (laws_FnExactAddJump.j2 kj80 tCo (btCz.2.2.2.2 != tBU) tC5 tC6 tC7 tCp) else (laws_FnExactAddJump.j2 kj80 tCo true tC5 tC6 tC7 tCp)))) = some r := H
           have A129 := Aside0.mk A1290
           clear A1290
           replace H := Option.bind_eq_some_iff.mp H
           obtain ⟨⟨tCz, tCA, tCB, tCC, tCF⟩, A1300, H⟩ := H
           replace H : ((laws_eqBoard.f kj80 tCz tCA tCB tCC tBO tBP tBQ tBR).bind fun tCH => (if tCH = true then (laws_FnExactAddJump.j2 kj80 tCo (tCF != tBU) tC5 tC6 tC7 tCp) else (laws_FnExactAddJump.j2 kj80 tCo true tC5 tC6 tC7 tCp))) = some r := H
           have A130 := Aside0.mk A1300
           clear A1300
           have HC131 := Aside0.mk H
           clear H
           have hnb132 := NBCc_BD.out
           have hnc132 := NBBD_Cc.out
           have hnb133 := NBCc_BE.out
           have hnc133 := NBBE_Cc.out
           have hnb134 := NBCc_BV.out
           have hnc134 := NBBV_Cc.out
           have hnb135 := NBCc_C2.out
           have hnc135 := NBC2_Cc.out
           obtain ⟨hcz136_0, hcz136_1, hcz136_2, hcz136_3, hfz136_0, hfz136_1, hfz136_2, hfz136_3⟩ := blk4 BKCc.out
           try go_wp2_with (first | ((with_reducible refine gate_callee (f := 47) rfl ?_); refine goesL_ (some 70) rfl rfl Try.func47 (by kernel_rfl) rfl #[.agg #[.int .i64 tC5, .int .i64 tC6, .int .i64 tC7, .slice Ao52 tC8.length co52], .int .i64 1] rfl argS ?_; (with_reducible refine (laws_markBoard.calls kj80 tC5 tC6 tC7 (fun k_ => some k_ = (.slice Ao52 tC8.length co52 : Value).ownBlock) (.slice Ao52 tC8.length co52) tC8 1 tCo tCp w _ ?side1 ?side2 A116.out).mono ?_); (case side1 => exact belS); (case side2 => exact Kd.R_tight rfl HO_Cd003.out); rintro e w137 ⟨rfl, hy0, hb, hkp⟩; refine ⟨_, rfl, ?_⟩; have n0_ := Aside0.mk (Kd.R_mono (ok' := fun k_ => some k_ ≠ (.slice Ao42 tCm.length co42 : Value).ownBlock ∧ some k_ ≠ (.slice Ao52 tC8.length co52 : Value).ownBlock) (Kd.R_keptB (HO_BW003.out) hkp (fun k_ hk_ hs_ => (hk_.2) hs_)) (fun k_ hk_ => ⟨hk_.1.1, hk_.1.2⟩)); have n1_ := Aside0.mk (Kd.R_mono (ok' := fun k_ => some k_ ≠ (.slice Ao32 tBR.length co32 : Value).ownBlock ∧ some k_ ≠ (.slice Ao52 tC8.length co52 : Value).ownBlock) (Kd.R_keptB (HO_C3003.out) hkp (fun k_ hk_ hs_ => (hk_.2) hs_)) (fun k_ hk_ => ⟨hk_.1.1, hk_.1.2⟩)); have n2_ := Aside0.mk (Kd.R_reok rfl hy0 (fun k_ e_ => HO_Cd003.out.1 k_ e_)); have n3_ := Aside0.mk (blk_kept (blk_up BKBD.out) hkp (fun hs_ => (fun e_ => (Kd.R_ne HO_Cd003.out BKBD.out (by decide)) e_) hs_)); have n4_ := Aside0.mk (blk_kept (blk_up BKBE.out) hkp (fun hs_ => (fun e_ => (Kd.R_ne HO_Cd003.out BKBE.out (by decide)) e_) hs_)); have n5_ := Aside0.mk (blk_kept (blk_up BKBV.out) hkp (fun hs_ => (fun e_ => (Kd.R_ne HO_Cd003.out BKBV.out (by decide)) e_) hs_)); have n6_ := Aside0.mk (blk_kept (blk_up BKC2.out) hkp (fun hs_ => (fun e_ => (Kd.R_ne HO_Cd003.out BKC2.out (by decide)) e_) hs_)); have n7_ := Aside0.mk (blk_kept (blk_up BKCc.out) hkp (fun hs_ => (fun e_ => (Kd.R_ne HO_Cd003.out BKCc.out (by decide)) e_) hs_)); have n8_ := Aside0.mk (hb); clear HO_BW003 HO_C3003 HO_Cd003 BKBD BKBE BKBV BKC2 BKCc HB; revert n0_ n1_ n2_ n3_ n4_ n5_ n6_ n7_ n8_; intro HO_BW003 HO_C3003 HO_Cd003 BKBD BKBE BKBV BKC2 BKCc HB; (try clear hb); (try clear hkp); (try clear hy0); obtain ⟨hcz138_0, hcz138_1, hcz138_2, hcz138_3, hfz138_0, hfz138_1, hfz138_2, hfz138_3⟩ := blk4 BKCc.out) | ((with_reducible refine gate_callee (f := 48) rfl ?_); refine goesL_ (some 73) rfl rfl Try.func48 (by kernel_rfl) rfl #[.agg #[.int .i64 tC5, .int .i64 tC6, .int .i64 tC7, .slice Ao52 tCp.length co52], .int .i64 1] rfl (by (try simp only [List.map_toArray, List.map_cons, List.map_nil]); first | done | (rw [show tCp.length = tC8.length from (Kd.R_reads' HO_Cd003.out).1.symm] <;> rfl) | rfl | (simp only [List.length_drop, List.length_take]; rfl)) ?_; (with_reducible refine (laws_heldBoard.calls kj80 tC5 tC6 tC7 _ _ tCp 1 tCq _ ?side1 ?side2 A117.out).mono ?_); (case side1 => exact Kd.C_up (Kd.R_reads' HO_Cd003.out).2.2); (case side2 => rw [show tCp.length = tC8.length from (Kd.R_reads' HO_Cd003.out).1.symm]; exact (Kd.R_reads' HO_Cd003.out).2.1); rintro e w139 ⟨rfl, hb⟩; refine ⟨_, rfl, ?_⟩; have n0_ := Aside0.mk (Kd.R_below (Kd.R_up HO_BW003.out) hb); have n1_ := Aside0.mk (Kd.R_below (Kd.R_up HO_C3003.out) hb); have n2_ := Aside0.mk (Kd.R_below (Kd.R_up HO_Cd003.out) hb); have n3_ := Aside0.mk (blk_below (blk_up BKBD.out) hb); have n4_ := Aside0.mk (blk_below (blk_up BKBE.out) hb); have n5_ := Aside0.mk (blk_below (blk_up BKBV.out) hb); have n6_ := Aside0.mk (blk_below (blk_up BKC2.out) hb); have n7_ := Aside0.mk (blk_below (blk_up BKCc.out) hb); have n8_ := Aside0.mk (below_step belS hb); clear HO_BW003 HO_C3003 HO_Cd003 BKBD BKBE BKBV BKC2 BKCc HB; revert n0_ n1_ n2_ n3_ n4_ n5_ n6_ n7_ n8_; intro HO_BW003 HO_C3003 HO_Cd003 BKBD BKBE BKBV BKC2 BKCc HB; (try clear hb)))
           have n0_ := Aside0.mk (Kd.R_drew HO_BW003.out)
           have n1_ := Aside0.mk (Kd.R_drew HO_C3003.out)
           have n2_ := Aside0.mk (Kd.R_drew HO_Cd003.out)
           have n3_ := Aside0.mk (blk_drew BKBD.out)
           have n4_ := Aside0.mk (blk_drew BKBE.out)
           have n5_ := Aside0.mk (blk_drew BKBV.out)
           have n6_ := Aside0.mk (blk_drew BKC2.out)
           have n7_ := Aside0.mk (blk_drew BKCc.out)
           have n8_ := Aside0.mk (below_drew1 HB.out)
           clear HO_BW003
           clear HO_C3003
           clear HO_Cd003
           clear BKBD
           clear BKBE
           clear BKBV
           clear BKC2
           clear BKCc
           clear HB
           have HO_BW003 := n0_
           have HO_C3003 := n1_
           have HO_Cd003 := n2_
           have BKBD := n3_
           have BKBE := n4_
           have BKBV := n5_
           have BKC2 := n6_
           have BKCc := n7_
           have HB := n8_
           clear n0_ n1_ n2_ n3_ n4_ n5_ n6_ n7_ n8_
           refine start_ (n := 11) (S := fun w' => w'.cell? ⟨gbBD, 0, none⟩ = some (.int .i64 a0_0) ∧ w'.cell? ⟨gbBD, 1, none⟩ = some (.int .i64 a0_1) ∧ w'.cell? ⟨gbBD, 2, none⟩ = some (.int .i64 a0_2) ∧ w'.cell? ⟨gbBD, 3, none⟩ = some (.slice A0_3 l0_3.length c0_3) ∧ w'.cell? ⟨gbBE, 0, none⟩ = some (.int .i64 a1_0) ∧ w'.cell? ⟨gbBE, 1, none⟩ = some (.int .i64 a1_1)) (ds := []) bLawsFnExactAddJump_0 (by kernel_rfl) rfl rfl ⟨(blk_cell BKBD.out 0).trans rfl, (blk_cell BKBD.out 1).trans rfl, (blk_cell BKBD.out 2).trans rfl, (blk_cell BKBD.out 3).trans rfl, (blk_cell BKBE.out 0).trans rfl, (blk_cell BKBE.out 1).trans rfl⟩ (fun hHeld => ?_); refine with_tabW laws_FnExactAddJump.tab24 laws_FnExactAddJump.bits24 (fun HT_ HW_ => ?_)
           generalize w139.drew = w140 at HO_BW003 HO_C3003 HO_Cd003 BKBD BKBE BKBV BKC2 BKCc HB hHeld ⊢
           refine take_ (i := 0) (N := some 80) (v := ?_) (a' := ?_) bLawsFnExactAddJump_1 rfl rfl (take_ofW HT_.out HW_.out (by kernel_rfl)) (fun _ _ _ h => h) (Or.inl ⟨by rfl, ?_⟩) hHeld ?_ ?_
           rotate_left
           ·rintro w' ⟨s0, s1, s2, s3, s4, s5⟩
            go_simp
            with_reducible rfl
           rotate_left
           ·simp only [Act.put, sA_, sB_, sC_, i64_w, i32_w]
            rfl
           refine take_ (i := 2) (N := some 82) (v := ?_) (a' := ?_) bLawsFnExactAddJump_2 rfl rfl (take_ofW HT_.out HW_.out (by kernel_rfl)) (fun _ _ _ h => h) (Or.inl ⟨by rfl, ?_⟩) hHeld ?_ ?_
           rotate_left
           ·rintro w' ⟨s0, s1, s2, s3, s4, s5⟩
            go_simp
            with_reducible rfl
           rotate_left
           ·simp only [Act.put, sA_, sB_, sC_, i64_w, i32_w]
            rfl
           refine join_ (σ := Value × Value × Nat) 2 bLawsFnExactAddJump_3 (fun s_ => [(81, .agg #[.int .i64 tCr, .int .i64 tCs, .int .i64 tCt, s_.1]), (83, .agg #[.int .i64 tCx, .int .i64 tCy]), (84, .tuple #[.agg #[.int .i64 tCz, .int .i64 tCA, .int .i64 tCB, s_.2.1], .bool tCF]), (14, .pointer (some ⟨s_.2.2, 0, none⟩)), (79, .tuple #[.agg #[.int .i64 tCz, .int .i64 tCA, .int .i64 tCB, s_.2.1], .bool tCF]), (85, .agg #[.int .i64 tCz, .int .i64 tCA, .int .i64 tCB, s_.2.1]), (86, .bool tCF)]) (fun s_ w' => (w'.cell? ⟨gbBD, 0, none⟩ = some (.int .i64 a0_0) ∧ w'.cell? ⟨gbBD, 1, none⟩ = some (.int .i64 a0_1) ∧ w'.cell? ⟨gbBD, 2, none⟩ = some (.int .i64 a0_2) ∧ w'.cell? ⟨gbBD, 3, none⟩ = some (.slice A0_3 l0_3.length c0_3) ∧ w'.cell? ⟨gbBE, 0, none⟩ = some (.int .i64 a1_0) ∧ w'.cell? ⟨gbBE, 1, none⟩ = some (.int .i64 a1_1)) ∧ (Kd.R k27 27 w' w.heap.size (fun k_ => some k_ ≠ (s_.2.1 : Value).ownBlock ∧ some k_ ≠ (.slice Ao32 tBR.length co32 : Value).ownBlock ∧ some k_ ≠ (.slice Ao42 tCm.length co42 : Value).ownBlock ∧ some k_ ≠ (.slice Ao52 tC8.length co52 : Value).ownBlock) s_.1 tCu) ∧ (Kd.R k27 27 w' w.heap.size (fun k_ => some k_ ≠ (s_.1 : Value).ownBlock ∧ some k_ ≠ (.slice Ao32 tBR.length co32 : Value).ownBlock ∧ some k_ ≠ (.slice Ao42 tCm.length co42 : Value).ownBlock ∧ some k_ ≠ (.slice Ao52 tC8.length co52 : Value).ownBlock) s_.2.1 tCC) ∧ (Kd.R k27 27 w' w.heap.size (fun k_ => some k_ ≠ (s_.1 : Value).ownBlock ∧ some k_ ≠ (s_.2.1 : Value).ownBlock ∧ some k_ ≠ (.slice Ao42 tCm.length co42 : Value).ownBlock ∧ some k_ ≠ (.slice Ao52 tC8.length co52 : Value).ownBlock) (.slice Ao32 tBR.length co32) tBR) ∧ (Kd.R k27 27 w' w.heap.size (fun k_ => some k_ ≠ (s_.1 : Value).ownBlock ∧ some k_ ≠ (s_.2.1 : Value).ownBlock ∧ some k_ ≠ (.slice Ao32 tBR.length co32 : Value).ownBlock ∧ some k_ ≠ (.slice Ao52 tC8.length co52 : Value).ownBlock) (.slice Ao42 tCm.length co42) tCm) ∧ (Kd.R k27 27 w' w.heap.size (fun k_ => some k_ ≠ (s_.1 : Value).ownBlock ∧ some k_ ≠ (s_.2.1 : Value).ownBlock ∧ some k_ ≠ (.slice Ao32 tBR.length co32 : Value).ownBlock ∧ some k_ ≠ (.slice Ao42 tCm.length co42 : Value).ownBlock) (.slice Ao52 tC8.length co52) tCp) ∧ (w'.heap[gbBD]? = some (.cells #[.int .i64 a0_0, .int .i64 a0_1, .int .i64 a0_2, .slice A0_3 l0_3.length c0_3] 24 (0, 0))) ∧ (w'.heap[gbBE]? = some (.cells #[.int .i64 a1_0, .int .i64 a1_1] 82 (0, 0))) ∧ (w'.heap[gbBV]? = some (.cells #[.int .i64 tBO, .int .i64 tBP, .int .i64 tBQ, .slice Ao32 tBR.length co32] 32 (0, 0))) ∧ (w'.heap[gbC2]? = some (.cells #[.int .i64 tBW, .int .i64 tBX, .int .i64 tBY, .slice Ao42 tCm.length co42] 32 (0, 0))) ∧ (w'.heap[gbCc]? = some (.cells #[.int .i64 tC5, .int .i64 tC6, .int .i64 tC7, .slice Ao52 tC8.length co52] 32 (0, 0))) ∧ (w'.heap[s_.2.2]? = some (.cells #[.int .i64 0, .int .i64 0, .int .i64 0, .slice none 0 0] 32 (0, 0))) ∧ (w.heap.size ≤ s_.2.2) ∧ (w.heap.size ≤ s_.2.2) ∧ (gbBD ≠ s_.2.2) ∧ (s_.2.2 ≠ gbBD) ∧ (gbBE ≠ s_.2.2) ∧ (s_.2.2 ≠ gbBE) ∧ (gbBV ≠ s_.2.2) ∧ (s_.2.2 ≠ gbBV) ∧ (gbC2 ≠ s_.2.2) ∧ (s_.2.2 ≠ gbC2) ∧ (gbCc ≠ s_.2.2) ∧ (s_.2.2 ≠ gbCc) ∧ (Below w.heap.size w w')) ?_ ?_
           rotate_left
           ·intro hCont
            refine two_ (i := 1) (j := 8) (Ni := some 81) (Nj := some 14) bLawsFnExactAddJump_4 bLawsFnExactAddJump_5 rfl rfl rfl rfl (two_of HT_.out (by kernel_rfl)) (by decide) (by decide) (fun K hK => ?_) (fun K hK => ?_)
            ·skip
             refine goes_ Try.func39 (by kernel_rfl) rfl #[.agg #[.int .i64 a0_0, .int .i64 a0_1, .int .i64 a0_2, .slice A0_3 l0_3.length c0_3]] (by rfl) rfl rfl argS ?_
             with_reducible refine (laws_toBoard.calls kj80 a0_0 a0_1 a0_2 _ _ l0_3 tCr tCs tCt tCu _ ?side1 ?side2 A128.out).mono ?_
             (case side1 => exact Kd.C_up (Kd.C_below HR0_3.out HB.out))
             (case side2 => exact HC0_3.out)
             rintro e w141 ⟨vCv, rfl, ho0, hb⟩
             refine ⟨_, rfl, ?_⟩
             have n0_ := Aside0.mk (Kd.R_elder' (Kd.R_up HO_BW003.out) (Kd.R_base ho0) hb)
             have n1_ := Aside0.mk (Kd.R_elder' (Kd.R_up HO_C3003.out) (Kd.R_base ho0) hb)
             have n2_ := Aside0.mk (Kd.R_elder' (Kd.R_up HO_Cd003.out) (Kd.R_base ho0) hb)
             have n3_ := Aside0.mk (Kd.R_lower (Kd.R_new' (Kd.R_new' (Kd.R_new' ho0 (Kd.R_lt (Kd.R_up HO_BW003.out))) (Kd.R_lt (Kd.R_up HO_C3003.out))) (Kd.R_lt (Kd.R_up HO_Cd003.out))) (below_size belS))
             have n4_ := Aside0.mk (blk_below (blk_up BKBD.out) hb)
             have n5_ := Aside0.mk (blk_below (blk_up BKBE.out) hb)
             have n6_ := Aside0.mk (blk_below (blk_up BKBV.out) hb)
             have n7_ := Aside0.mk (blk_below (blk_up BKC2.out) hb)
             have n8_ := Aside0.mk (blk_below (blk_up BKCc.out) hb)
             have n9_ := Aside0.mk (below_step belS hb)
             clear HO_BW003
             clear HO_C3003
             clear HO_Cd003
             clear BKBD
             clear BKBE
             clear BKBV
             clear BKC2
             clear BKCc
             clear HB
             have HO_BW003 := n0_
             have HO_C3003 := n1_
             have HO_Cd003 := n2_
             have HOCw := n3_
             have BKBD := n4_
             have BKBE := n5_
             have BKBV := n6_
             have BKC2 := n7_
             have BKCc := n8_
             have HB := n9_
             clear n0_ n1_ n2_ n3_ n4_ n5_ n6_ n7_ n8_ n9_
             (try clear hb)
             (try clear hb2)
             (try clear hk)
             (try clear hi)
             (try clear ho0)
             refine hK.out _ _ ⟨(blk_cell BKBD.out 0).trans rfl, (blk_cell BKBD.out 1).trans rfl, (blk_cell BKBD.out 2).trans rfl, (blk_cell BKBD.out 3).trans rfl, (blk_cell BKBE.out 0).trans rfl, (blk_cell BKBE.out 1).trans rfl⟩ (fun hHeld => ?_)
             clear hK K
             refine norm_ (a' := ?_) ?_ ?_
             rotate_left
             ·show Act.put _ (some 81) _ = _
              simp only [Act.put, sA_, sB_, sC_, i64_w, i32_w]
              rfl
             refine two_ (i := 3) (j := 8) (Ni := some 83) (Nj := some 14) bLawsFnExactAddJump_6 bLawsFnExactAddJump_7 rfl rfl rfl rfl (two_of HT_.out (by kernel_rfl)) (by decide) (by decide) (fun K hK => ?_) (fun K hK => ?_)
             ·skip
              refine goes_ Try.func106 (by kernel_rfl) rfl #[.agg #[.int .i64 a1_0, .int .i64 a1_1]] (by rfl) rfl rfl argS ?_
              with_reducible refine (laws_toJump.calls a1_0 a1_1 tCx tCy _ A129.out).mono ?_
              rintro e w142 ⟨rfl, hb⟩
              refine ⟨_, rfl, ?_⟩
              have n0_ := Aside0.mk (Kd.R_below (Kd.R_up HO_BW003.out) hb)
              have n1_ := Aside0.mk (Kd.R_below (Kd.R_up HO_C3003.out) hb)
              have n2_ := Aside0.mk (Kd.R_below (Kd.R_up HO_Cd003.out) hb)
              have n3_ := Aside0.mk (Kd.R_below (Kd.R_up HOCw.out) hb)
              have n4_ := Aside0.mk (blk_below (blk_up BKBD.out) hb)
              have n5_ := Aside0.mk (blk_below (blk_up BKBE.out) hb)
              have n6_ := Aside0.mk (blk_below (blk_up BKBV.out) hb)
              have n7_ := Aside0.mk (blk_below (blk_up BKC2.out) hb)
              have n8_ := Aside0.mk (blk_below (blk_up BKCc.out) hb)
              have n9_ := Aside0.mk (below_step belS hb)
              clear HO_BW003
              clear HO_C3003
              clear HO_Cd003
              clear HOCw
              clear BKBD
              clear BKBE
              clear BKBV
              clear BKC2
              clear BKCc
              clear HB
              have HO_BW003 := n0_
              have HO_C3003 := n1_
              have HO_Cd003 := n2_
              have HOCw := n3_
              have BKBD := n4_
              have BKBE := n5_
              have BKBV := n6_
              have BKC2 := n7_
              have BKCc := n8_
              have HB := n9_
              clear n0_ n1_ n2_ n3_ n4_ n5_ n6_ n7_ n8_ n9_
              (try clear hb)
              (try clear hb2)
              (try clear hk)
              (try clear hi)
              obtain ⟨Ao143, co143, eo143⟩ := Kd.R_slice HOCw.out
              (first | subst eo143 | (injection eo143 with f1_ f2_ f3_; have f4_ := f1_.symm; have f5_ := f3_.symm; clear f1_ f2_ f3_; subst f4_; subst f5_))
              refine hK.out _ _ ⟨(blk_cell BKBD.out 0).trans rfl, (blk_cell BKBD.out 1).trans rfl, (blk_cell BKBD.out 2).trans rfl, (blk_cell BKBD.out 3).trans rfl, (blk_cell BKBE.out 0).trans rfl, (blk_cell BKBE.out 1).trans rfl⟩ (fun hHeld => ?_)
              clear hK K
              refine norm_ (a' := ?_) ?_ ?_
              rotate_left
              ·show Act.put _ (some 83) _ = _
               simp only [Act.put, sA_, sB_, sC_, i64_w, i32_w]
               rfl
              refine two_ (i := 4) (j := 8) (Ni := some 84) (Nj := some 14) bLawsFnExactAddJump_8 bLawsFnExactAddJump_9 rfl rfl rfl rfl (two_of HT_.out (by kernel_rfl)) (by decide) (by decide) (fun K hK => ?_) (fun K hK => ?_)
              ·skip
               refine goes_ Try.func107 (by kernel_rfl) rfl #[.agg #[.int .i64 tCr, .int .i64 tCs, .int .i64 tCt, .slice Ao143 tCu.length co143], .agg #[.int .i64 tCx, .int .i64 tCy]] (by rfl) rfl rfl argS ?_
               with_reducible refine (impl_AddJump.calls kj80 tCr tCs tCt _ _ tCu tCx tCy tCz tCA tCB tCC tCF _ ?side1 ?side2 A130.out).mono ?_
               (case side1 => exact Kd.C_up (Kd.R_reads' HOCw.out).2.2)
               (case side2 => exact (Kd.R_reads' HOCw.out).2.1)
               rintro e w144 ⟨vCD, rfl, ho0, hb⟩
               refine ⟨_, rfl, ?_⟩
               have n0_ := Aside0.mk (Kd.R_elder' (Kd.R_up HO_BW003.out) (Kd.R_base ho0) hb)
               have n1_ := Aside0.mk (Kd.R_elder' (Kd.R_up HO_C3003.out) (Kd.R_base ho0) hb)
               have n2_ := Aside0.mk (Kd.R_elder' (Kd.R_up HO_Cd003.out) (Kd.R_base ho0) hb)
               have n3_ := Aside0.mk (Kd.R_elder' (Kd.R_up HOCw.out) (Kd.R_base ho0) hb)
               have n4_ := Aside0.mk (Kd.R_lower (Kd.R_new' (Kd.R_new' (Kd.R_new' (Kd.R_new' ho0 (Kd.R_lt (Kd.R_up HO_BW003.out))) (Kd.R_lt (Kd.R_up HO_C3003.out))) (Kd.R_lt (Kd.R_up HO_Cd003.out))) (Kd.R_lt (Kd.R_up HOCw.out))) (below_size belS))
               have n5_ := Aside0.mk (blk_below (blk_up BKBD.out) hb)
               have n6_ := Aside0.mk (blk_below (blk_up BKBE.out) hb)
               have n7_ := Aside0.mk (blk_below (blk_up BKBV.out) hb)
               have n8_ := Aside0.mk (blk_below (blk_up BKC2.out) hb)
               have n9_ := Aside0.mk (blk_below (blk_up BKCc.out) hb)
               have n10_ := Aside0.mk (below_step belS hb)
               clear HO_BW003
               clear HO_C3003
               clear HO_Cd003
               clear HOCw
               clear BKBD
               clear BKBE
               clear BKBV
               clear BKC2
               clear BKCc
               clear HB
               have HO_BW003 := n0_
               have HO_C3003 := n1_
               have HO_Cd003 := n2_
               have HOCw := n3_
               have HOCE := n4_
               have BKBD := n5_
               have BKBE := n6_
               have BKBV := n7_
               have BKC2 := n8_
               have BKCc := n9_
               have HB := n10_
               clear n0_ n1_ n2_ n3_ n4_ n5_ n6_ n7_ n8_ n9_ n10_
               (try clear hb)
               (try clear hb2)
               (try clear hk)
               (try clear hi)
               (try clear ho0)
               refine hK.out _ _ ⟨(blk_cell BKBD.out 0).trans rfl, (blk_cell BKBD.out 1).trans rfl, (blk_cell BKBD.out 2).trans rfl, (blk_cell BKBD.out 3).trans rfl, (blk_cell BKBE.out 0).trans rfl, (blk_cell BKBE.out 1).trans rfl⟩ (fun hHeld => ?_)
               clear hK K
               refine norm_ (a' := ?_) ?_ ?_
               rotate_left
               ·show Act.put _ (some 84) _ = _
                simp only [Act.put, sA_, sB_, sC_, i64_w, i32_w]
                rfl
               refine pure_ (i := 5) (N := some 79) (v := ?_) (a' := ?_) bLawsFnExactAddJump_10 rfl rfl (any_of HT_.out (by kernel_rfl)) (fun _ _ _ h => h) (Or.inl ⟨by rfl, ?_⟩) ?_ ?_
               rotate_left
               ·intro w'
                go_simp
                with_reducible rfl
               rotate_left
               ·simp only [Act.put, sA_, sB_, sC_, i64_w, i32_w]
                rfl
               refine pure_ (i := 6) (N := some 85) (v := ?_) (a' := ?_) bLawsFnExactAddJump_11 rfl rfl (any_of HT_.out (by kernel_rfl)) (fun _ _ _ h => h) (Or.inl ⟨by rfl, ?_⟩) ?_ ?_
               rotate_left
               ·intro w'
                go_simp
                with_reducible rfl
               rotate_left
               ·simp only [Act.put, sA_, sB_, sC_, i64_w, i32_w]
                rfl
               refine pure_ (i := 7) (N := some 86) (v := ?_) (a' := ?_) bLawsFnExactAddJump_12 rfl rfl (any_of HT_.out (by kernel_rfl)) (fun _ _ _ h => h) (Or.inl ⟨by rfl, ?_⟩) ?_ ?_
               rotate_left
               ·intro w'
                go_simp
                with_reducible rfl
               rotate_left
               ·simp only [Act.put, sA_, sB_, sC_, i64_w, i32_w]
                rfl
               refine one_ (i := 8) (N := some 14) bLawsFnExactAddJump_3 rfl rfl (one_of HT_.out (by kernel_rfl)) (by decide) (fun K hK => ?_)
               refine box_step ?hg (N := 14) ?hd (cs := #[.int .i64 0, .int .i64 0, .int .i64 0, .slice none 0 0]) (t := 32) ?hr ?_; (case hd => rfl); (case hg => rfl); (case hr => first | (go_simp; done) | (go_simp; rfl))
               intro gbCG hg w145 hbox hb
               have n0_ := Aside0.mk (Kd.R_below (Kd.R_up HO_BW003.out) hb)
               have n1_ := Aside0.mk (Kd.R_below (Kd.R_up HO_C3003.out) hb)
               have n2_ := Aside0.mk (Kd.R_below (Kd.R_up HO_Cd003.out) hb)
               have n3_ := Aside0.mk (Kd.R_below (Kd.R_up HOCw.out) hb)
               have n4_ := Aside0.mk (Kd.R_below (Kd.R_up HOCE.out) hb)
               have n5_ := Aside0.mk (blk_below (blk_up BKBD.out) hb)
               have n6_ := Aside0.mk (blk_below (blk_up BKBE.out) hb)
               have n7_ := Aside0.mk (blk_below (blk_up BKBV.out) hb)
               have n8_ := Aside0.mk (blk_below (blk_up BKC2.out) hb)
               have n9_ := Aside0.mk (blk_below (blk_up BKCc.out) hb)
               have n10_ := Aside0.mk (below_step belS hb)
               have n11_ := Aside0.mk (hbox)
               have n12_ := Aside0.mk (geS hg : w.heap.size ≤ gbCG)
               have n13_ := Aside0.mk (geS hg : w.heap.size ≤ gbCG)
               have n14_ := Aside0.mk ((by rw [hg]; exact Nat.ne_of_lt (blk_lt (blk_up BKBD.out)) : gbBD ≠ gbCG))
               have n15_ := Aside0.mk ((by rw [hg]; exact Nat.ne_of_gt (blk_lt (blk_up BKBD.out)) : gbCG ≠ gbBD))
               have n16_ := Aside0.mk ((by rw [hg]; exact Nat.ne_of_lt (blk_lt (blk_up BKBE.out)) : gbBE ≠ gbCG))
               have n17_ := Aside0.mk ((by rw [hg]; exact Nat.ne_of_gt (blk_lt (blk_up BKBE.out)) : gbCG ≠ gbBE))
               have n18_ := Aside0.mk ((by rw [hg]; exact Nat.ne_of_lt (blk_lt (blk_up BKBV.out)) : gbBV ≠ gbCG))
               have n19_ := Aside0.mk ((by rw [hg]; exact Nat.ne_of_gt (blk_lt (blk_up BKBV.out)) : gbCG ≠ gbBV))
               have n20_ := Aside0.mk ((by rw [hg]; exact Nat.ne_of_lt (blk_lt (blk_up BKC2.out)) : gbC2 ≠ gbCG))
               have n21_ := Aside0.mk ((by rw [hg]; exact Nat.ne_of_gt (blk_lt (blk_up BKC2.out)) : gbCG ≠ gbC2))
               have n22_ := Aside0.mk ((by rw [hg]; exact Nat.ne_of_lt (blk_lt (blk_up BKCc.out)) : gbCc ≠ gbCG))
               have n23_ := Aside0.mk ((by rw [hg]; exact Nat.ne_of_gt (blk_lt (blk_up BKCc.out)) : gbCG ≠ gbCc))
               clear HO_BW003
               clear HO_C3003
               clear HO_Cd003
               clear HOCw
               clear HOCE
               clear BKBD
               clear BKBE
               clear BKBV
               clear BKC2
               clear BKCc
               clear HB
               have HO_BW003 := n0_
               have HO_C3003 := n1_
               have HO_Cd003 := n2_
               have HOCw := n3_
               have HOCE := n4_
               have BKBD := n5_
               have BKBE := n6_
               have BKBV := n7_
               have BKC2 := n8_
               have BKCc := n9_
               have HB := n10_
               have BKCG := n11_
               have GWCG := n12_
               have GECG := n13_
               have NBBD_CG := n14_
               have NBCG_BD := n15_
               have NBBE_CG := n16_
               have NBCG_BE := n17_
               have NBBV_CG := n18_
               have NBCG_BV := n19_
               have NBC2_CG := n20_
               have NBCG_C2 := n21_
               have NBCc_CG := n22_
               have NBCG_Cc := n23_
               clear n0_ n1_ n2_ n3_ n4_ n5_ n6_ n7_ n8_ n9_ n10_ n11_ n12_ n13_ n14_ n15_ n16_ n17_ n18_ n19_ n20_ n21_ n22_ n23_
               clear hb hbox hg
               refine hK.out _ _ ⟨(blk_cell BKBD.out 0).trans rfl, (blk_cell BKBD.out 1).trans rfl, (blk_cell BKBD.out 2).trans rfl, (blk_cell BKBD.out 3).trans rfl, (blk_cell BKBE.out 0).trans rfl, (blk_cell BKBE.out 1).trans rfl⟩ (fun hHeld => ?_)
               clear hK K
               refine norm_ (a' := ?_) ?_ ?_
               rotate_left
               ·show Act.put _ (some 14) _ = _
                simp only [Act.put, sA_, sB_, sC_, i64_w, i32_w]
                rfl
               exact norm_ (by simp only [putAll, Act.put, sA_, sB_, sC_]) (hCont (.slice Ao143 tCu.length co143, vCD, gbCG) _ ⟨hHeld, (by (with_reducible repeat (first | apply Kd.R_alloc | apply Kd.R_drewN | apply Kd.R_drew)); exact Kd.R_mono HOCw.out (fun _ hk => ⟨hk.2, ⟨hk.1.1.1.2, ⟨hk.1.1.2, hk.1.2⟩⟩⟩)), (by (with_reducible repeat (first | apply Kd.R_alloc | apply Kd.R_drewN | apply Kd.R_drew)); exact Kd.R_mono HOCE.out (fun _ hk => ⟨hk.2, ⟨hk.1.1.1.2, ⟨hk.1.1.2, hk.1.2⟩⟩⟩)), (by (with_reducible repeat (first | apply Kd.R_alloc | apply Kd.R_drewN | apply Kd.R_drew)); exact Kd.R_mono HO_BW003.out (fun _ hk => ⟨hk.1.2, ⟨hk.2, ⟨hk.1.1.1, hk.1.1.2⟩⟩⟩)), (by (with_reducible repeat (first | apply Kd.R_alloc | apply Kd.R_drewN | apply Kd.R_drew)); exact Kd.R_mono HO_C3003.out (fun _ hk => ⟨hk.1.2, ⟨hk.2, ⟨hk.1.1.1, hk.1.1.2⟩⟩⟩)), (by (with_reducible repeat (first | apply Kd.R_alloc | apply Kd.R_drewN | apply Kd.R_drew)); exact Kd.R_mono HO_Cd003.out (fun _ hk => ⟨hk.1.2, ⟨hk.2, ⟨hk.1.1.1, hk.1.1.2⟩⟩⟩)), (blk_up BKBD.out), (blk_up BKBE.out), (blk_up BKBV.out), (blk_up BKC2.out), (blk_up BKCc.out), (blk_up BKCG.out), GWCG.out, GECG.out, NBBD_CG.out, NBCG_BD.out, NBBE_CG.out, NBCG_BE.out, NBBV_CG.out, NBCG_BV.out, NBC2_CG.out, NBCG_C2.out, NBCc_CG.out, NBCG_Cc.out, belS⟩)
              ·skip
               refine box_step ?hg (N := 14) ?hd (cs := #[.int .i64 0, .int .i64 0, .int .i64 0, .slice none 0 0]) (t := 32) ?hr ?_; (case hd => rfl); (case hg => rfl); (case hr => first | (go_simp; done) | (go_simp; rfl))
               intro gbCG hg w143 hbox hb
               have n0_ := Aside0.mk (Kd.R_below (Kd.R_up HO_BW003.out) hb)
               have n1_ := Aside0.mk (Kd.R_below (Kd.R_up HO_C3003.out) hb)
               have n2_ := Aside0.mk (Kd.R_below (Kd.R_up HO_Cd003.out) hb)
               have n3_ := Aside0.mk (Kd.R_below (Kd.R_up HOCw.out) hb)
               have n4_ := Aside0.mk (blk_below (blk_up BKBD.out) hb)
               have n5_ := Aside0.mk (blk_below (blk_up BKBE.out) hb)
               have n6_ := Aside0.mk (blk_below (blk_up BKBV.out) hb)
               have n7_ := Aside0.mk (blk_below (blk_up BKC2.out) hb)
               have n8_ := Aside0.mk (blk_below (blk_up BKCc.out) hb)
               have n9_ := Aside0.mk (below_step belS hb)
               have n10_ := Aside0.mk (hbox)
               have n11_ := Aside0.mk (geS hg : w.heap.size ≤ gbCG)
               have n12_ := Aside0.mk (geS hg : w.heap.size ≤ gbCG)
               have n13_ := Aside0.mk ((by rw [hg]; exact Nat.ne_of_lt (blk_lt (blk_up BKBD.out)) : gbBD ≠ gbCG))
               have n14_ := Aside0.mk ((by rw [hg]; exact Nat.ne_of_gt (blk_lt (blk_up BKBD.out)) : gbCG ≠ gbBD))
               have n15_ := Aside0.mk ((by rw [hg]; exact Nat.ne_of_lt (blk_lt (blk_up BKBE.out)) : gbBE ≠ gbCG))
               have n16_ := Aside0.mk ((by rw [hg]; exact Nat.ne_of_gt (blk_lt (blk_up BKBE.out)) : gbCG ≠ gbBE))
               have n17_ := Aside0.mk ((by rw [hg]; exact Nat.ne_of_lt (blk_lt (blk_up BKBV.out)) : gbBV ≠ gbCG))
               have n18_ := Aside0.mk ((by rw [hg]; exact Nat.ne_of_gt (blk_lt (blk_up BKBV.out)) : gbCG ≠ gbBV))
               have n19_ := Aside0.mk ((by rw [hg]; exact Nat.ne_of_lt (blk_lt (blk_up BKC2.out)) : gbC2 ≠ gbCG))
               have n20_ := Aside0.mk ((by rw [hg]; exact Nat.ne_of_gt (blk_lt (blk_up BKC2.out)) : gbCG ≠ gbC2))
               have n21_ := Aside0.mk ((by rw [hg]; exact Nat.ne_of_lt (blk_lt (blk_up BKCc.out)) : gbCc ≠ gbCG))
               have n22_ := Aside0.mk ((by rw [hg]; exact Nat.ne_of_gt (blk_lt (blk_up BKCc.out)) : gbCG ≠ gbCc))
               clear HO_BW003
               clear HO_C3003
               clear HO_Cd003
               clear HOCw
               clear BKBD
               clear BKBE
               clear BKBV
               clear BKC2
               clear BKCc
               clear HB
               have HO_BW003 := n0_
               have HO_C3003 := n1_
               have HO_Cd003 := n2_
               have HOCw := n3_
               have BKBD := n4_
               have BKBE := n5_
               have BKBV := n6_
               have BKC2 := n7_
               have BKCc := n8_
               have HB := n9_
               have BKCG := n10_
               have GWCG := n11_
               have GECG := n12_
               have NBBD_CG := n13_
               have NBCG_BD := n14_
               have NBBE_CG := n15_
               have NBCG_BE := n16_
               have NBBV_CG := n17_
               have NBCG_BV := n18_
               have NBC2_CG := n19_
               have NBCG_C2 := n20_
               have NBCc_CG := n21_
               have NBCG_Cc := n22_
               clear n0_ n1_ n2_ n3_ n4_ n5_ n6_ n7_ n8_ n9_ n10_ n11_ n12_ n13_ n14_ n15_ n16_ n17_ n18_ n19_ n20_ n21_ n22_
               clear hb hbox hg
               obtain ⟨Ao144, co144, eo144⟩ := Kd.R_slice HOCw.out
               (first | subst eo144 | (injection eo144 with f1_ f2_ f3_; have f4_ := f1_.symm; have f5_ := f3_.symm; clear f1_ f2_ f3_; subst f4_; subst f5_))
               refine hK.out _ _ ⟨(blk_cell BKBD.out 0).trans rfl, (blk_cell BKBD.out 1).trans rfl, (blk_cell BKBD.out 2).trans rfl, (blk_cell BKBD.out 3).trans rfl, (blk_cell BKBE.out 0).trans rfl, (blk_cell BKBE.out 1).trans rfl⟩ (fun hHeld => ?_)
               clear hK K
               refine norm_ (a' := ?_) ?_ ?_
               rotate_left
               ·show Act.put _ (some 14) _ = _
                simp only [Act.put, sA_, sB_, sC_, i64_w, i32_w]
                rfl
               refine one_ (i := 4) (N := some 84) bLawsFnExactAddJump_13 rfl rfl (one_of HT_.out (by kernel_rfl)) (by decide) (fun K hK => ?_)
               refine goes_ Try.func107 (by kernel_rfl) rfl #[.agg #[.int .i64 tCr, .int .i64 tCs, .int .i64 tCt, .slice Ao144 tCu.length co144], .agg #[.int .i64 tCx, .int .i64 tCy]] (by rfl) rfl rfl argS ?_
               with_reducible refine (impl_AddJump.calls kj80 tCr tCs tCt _ _ tCu tCx tCy tCz tCA tCB tCC tCF _ ?side1 ?side2 A130.out).mono ?_
               (case side1 => exact Kd.C_up (Kd.R_reads' HOCw.out).2.2)
               (case side2 => exact (Kd.R_reads' HOCw.out).2.1)
               rintro e w145 ⟨vCD, rfl, ho0, hb⟩
               refine ⟨_, rfl, ?_⟩
               have n0_ := Aside0.mk (Kd.R_elder' (Kd.R_up HO_BW003.out) (Kd.R_base ho0) hb)
               have n1_ := Aside0.mk (Kd.R_elder' (Kd.R_up HO_C3003.out) (Kd.R_base ho0) hb)
               have n2_ := Aside0.mk (Kd.R_elder' (Kd.R_up HO_Cd003.out) (Kd.R_base ho0) hb)
               have n3_ := Aside0.mk (Kd.R_elder' (Kd.R_up HOCw.out) (Kd.R_base ho0) hb)
               have n4_ := Aside0.mk (Kd.R_lower (Kd.R_new' (Kd.R_new' (Kd.R_new' (Kd.R_new' ho0 (Kd.R_lt (Kd.R_up HO_BW003.out))) (Kd.R_lt (Kd.R_up HO_C3003.out))) (Kd.R_lt (Kd.R_up HO_Cd003.out))) (Kd.R_lt (Kd.R_up HOCw.out))) (below_size belS))
               have n5_ := Aside0.mk (blk_below (blk_up BKBD.out) hb)
               have n6_ := Aside0.mk (blk_below (blk_up BKBE.out) hb)
               have n7_ := Aside0.mk (blk_below (blk_up BKBV.out) hb)
               have n8_ := Aside0.mk (blk_below (blk_up BKC2.out) hb)
               have n9_ := Aside0.mk (blk_below (blk_up BKCc.out) hb)
               have n10_ := Aside0.mk (blk_below (blk_up BKCG.out) hb)
               have n11_ := Aside0.mk (below_step belS hb)
               clear HO_BW003
               clear HO_C3003
               clear HO_Cd003
               clear HOCw
               clear BKBD
               clear BKBE
               clear BKBV
               clear BKC2
               clear BKCc
               clear BKCG
               clear HB
               have HO_BW003 := n0_
               have HO_C3003 := n1_
               have HO_Cd003 := n2_
               have HOCw := n3_
               have HOCE := n4_
               have BKBD := n5_
               have BKBE := n6_
               have BKBV := n7_
               have BKC2 := n8_
               have BKCc := n9_
               have BKCG := n10_
               have HB := n11_
               clear n0_ n1_ n2_ n3_ n4_ n5_ n6_ n7_ n8_ n9_ n10_ n11_
               (try clear hb)
               (try clear hb2)
               (try clear hk)
               (try clear hi)
               (try clear ho0)
               refine hK.out _ _ ⟨(blk_cell BKBD.out 0).trans rfl, (blk_cell BKBD.out 1).trans rfl, (blk_cell BKBD.out 2).trans rfl, (blk_cell BKBD.out 3).trans rfl, (blk_cell BKBE.out 0).trans rfl, (blk_cell BKBE.out 1).trans rfl⟩ (fun hHeld => ?_)
               clear hK K
               refine norm_ (a' := ?_) ?_ ?_
               rotate_left
               ·show Act.put _ (some 84) _ = _
                simp only [Act.put, sA_, sB_, sC_, i64_w, i32_w]
                rfl
               refine pure_ (i := 5) (N := some 79) (v := ?_) (a' := ?_) bLawsFnExactAddJump_14 rfl rfl (any_of HT_.out (by kernel_rfl)) (fun _ _ _ h => h) (Or.inl ⟨by rfl, ?_⟩) ?_ ?_
               rotate_left
               ·intro w'
                go_simp
                with_reducible rfl
               rotate_left
               ·simp only [Act.put, sA_, sB_, sC_, i64_w, i32_w]
                rfl
               refine pure_ (i := 6) (N := some 85) (v := ?_) (a' := ?_) bLawsFnExactAddJump_15 rfl rfl (any_of HT_.out (by kernel_rfl)) (fun _ _ _ h => h) (Or.inl ⟨by rfl, ?_⟩) ?_ ?_
               rotate_left
               ·intro w'
                go_simp
                with_reducible rfl
               rotate_left
               ·simp only [Act.put, sA_, sB_, sC_, i64_w, i32_w]
                rfl
               refine pure_ (i := 7) (N := some 86) (v := ?_) (a' := ?_) bLawsFnExactAddJump_3 rfl rfl (any_of HT_.out (by kernel_rfl)) (fun _ _ _ h => h) (Or.inl ⟨by rfl, ?_⟩) ?_ ?_
               rotate_left
               ·intro w'
                go_simp
                with_reducible rfl
               rotate_left
               ·simp only [Act.put, sA_, sB_, sC_, i64_w, i32_w]
                rfl
               exact norm_ (by simp only [putAll, Act.put, sA_, sB_, sC_]) (hCont (.slice Ao144 tCu.length co144, vCD, gbCG) _ ⟨hHeld, (by (with_reducible repeat (first | apply Kd.R_alloc | apply Kd.R_drewN | apply Kd.R_drew)); exact Kd.R_mono HOCw.out (fun _ hk => ⟨hk.2, ⟨hk.1.1.1.2, ⟨hk.1.1.2, hk.1.2⟩⟩⟩)), (by (with_reducible repeat (first | apply Kd.R_alloc | apply Kd.R_drewN | apply Kd.R_drew)); exact Kd.R_mono HOCE.out (fun _ hk => ⟨hk.2, ⟨hk.1.1.1.2, ⟨hk.1.1.2, hk.1.2⟩⟩⟩)), (by (with_reducible repeat (first | apply Kd.R_alloc | apply Kd.R_drewN | apply Kd.R_drew)); exact Kd.R_mono HO_BW003.out (fun _ hk => ⟨hk.1.2, ⟨hk.2, ⟨hk.1.1.1, hk.1.1.2⟩⟩⟩)), (by (with_reducible repeat (first | apply Kd.R_alloc | apply Kd.R_drewN | apply Kd.R_drew)); exact Kd.R_mono HO_C3003.out (fun _ hk => ⟨hk.1.2, ⟨hk.2, ⟨hk.1.1.1, hk.1.1.2⟩⟩⟩)), (by (with_reducible repeat (first | apply Kd.R_alloc | apply Kd.R_drewN | apply Kd.R_drew)); exact Kd.R_mono HO_Cd003.out (fun _ hk => ⟨hk.1.2, ⟨hk.2, ⟨hk.1.1.1, hk.1.1.2⟩⟩⟩)), (blk_up BKBD.out), (blk_up BKBE.out), (blk_up BKBV.out), (blk_up BKC2.out), (blk_up BKCc.out), (blk_up BKCG.out), GWCG.out, GECG.out, NBBD_CG.out, NBCG_BD.out, NBBE_CG.out, NBCG_BE.out, NBBV_CG.out, NBCG_BV.out, NBC2_CG.out, NBCG_C2.out, NBCc_CG.out, NBCG_Cc.out, belS⟩)
             ·skip
              refine box_step ?hg (N := 14) ?hd (cs := #[.int .i64 0, .int .i64 0, .int .i64 0, .slice none 0 0]) (t := 32) ?hr ?_; (case hd => rfl); (case hg => rfl); (case hr => first | (go_simp; done) | (go_simp; rfl))
              intro gbCG hg w142 hbox hb
              have n0_ := Aside0.mk (Kd.R_below (Kd.R_up HO_BW003.out) hb)
              have n1_ := Aside0.mk (Kd.R_below (Kd.R_up HO_C3003.out) hb)
              have n2_ := Aside0.mk (Kd.R_below (Kd.R_up HO_Cd003.out) hb)
              have n3_ := Aside0.mk (Kd.R_below (Kd.R_up HOCw.out) hb)
              have n4_ := Aside0.mk (blk_below (blk_up BKBD.out) hb)
              have n5_ := Aside0.mk (blk_below (blk_up BKBE.out) hb)
              have n6_ := Aside0.mk (blk_below (blk_up BKBV.out) hb)
              have n7_ := Aside0.mk (blk_below (blk_up BKC2.out) hb)
              have n8_ := Aside0.mk (blk_below (blk_up BKCc.out) hb)
              have n9_ := Aside0.mk (below_step belS hb)
              have n10_ := Aside0.mk (hbox)
              have n11_ := Aside0.mk (geS hg : w.heap.size ≤ gbCG)
              have n12_ := Aside0.mk (geS hg : w.heap.size ≤ gbCG)
              have n13_ := Aside0.mk ((by rw [hg]; exact Nat.ne_of_lt (blk_lt (blk_up BKBD.out)) : gbBD ≠ gbCG))
              have n14_ := Aside0.mk ((by rw [hg]; exact Nat.ne_of_gt (blk_lt (blk_up BKBD.out)) : gbCG ≠ gbBD))
              have n15_ := Aside0.mk ((by rw [hg]; exact Nat.ne_of_lt (blk_lt (blk_up BKBE.out)) : gbBE ≠ gbCG))
              have n16_ := Aside0.mk ((by rw [hg]; exact Nat.ne_of_gt (blk_lt (blk_up BKBE.out)) : gbCG ≠ gbBE))
              have n17_ := Aside0.mk ((by rw [hg]; exact Nat.ne_of_lt (blk_lt (blk_up BKBV.out)) : gbBV ≠ gbCG))
              have n18_ := Aside0.mk ((by rw [hg]; exact Nat.ne_of_gt (blk_lt (blk_up BKBV.out)) : gbCG ≠ gbBV))
              have n19_ := Aside0.mk ((by rw [hg]; exact Nat.ne_of_lt (blk_lt (blk_up BKC2.out)) : gbC2 ≠ gbCG))
              have n20_ := Aside0.mk ((by rw [hg]; exact Nat.ne_of_gt (blk_lt (blk_up BKC2.out)) : gbCG ≠ gbC2))
              have n21_ := Aside0.mk ((by rw [hg]; exact Nat.ne_of_lt (blk_lt (blk_up BKCc.out)) : gbCc ≠ gbCG))
              have n22_ := Aside0.mk ((by rw [hg]; exact Nat.ne_of_gt (blk_lt (blk_up BKCc.out)) : gbCG ≠ gbCc))
              clear HO_BW003
              clear HO_C3003
              clear HO_Cd003
              clear HOCw
              clear BKBD
              clear BKBE
              clear BKBV
              clear BKC2
              clear BKCc
              clear HB
              have HO_BW003 := n0_
              have HO_C3003 := n1_
              have HO_Cd003 := n2_
              have HOCw := n3_
              have BKBD := n4_
              have BKBE := n5_
              have BKBV := n6_
              have BKC2 := n7_
              have BKCc := n8_
              have HB := n9_
              have BKCG := n10_
              have GWCG := n11_
              have GECG := n12_
              have NBBD_CG := n13_
              have NBCG_BD := n14_
              have NBBE_CG := n15_
              have NBCG_BE := n16_
              have NBBV_CG := n17_
              have NBCG_BV := n18_
              have NBC2_CG := n19_
              have NBCG_C2 := n20_
              have NBCc_CG := n21_
              have NBCG_Cc := n22_
              clear n0_ n1_ n2_ n3_ n4_ n5_ n6_ n7_ n8_ n9_ n10_ n11_ n12_ n13_ n14_ n15_ n16_ n17_ n18_ n19_ n20_ n21_ n22_
              clear hb hbox hg
              refine hK.out _ _ ⟨(blk_cell BKBD.out 0).trans rfl, (blk_cell BKBD.out 1).trans rfl, (blk_cell BKBD.out 2).trans rfl, (blk_cell BKBD.out 3).trans rfl, (blk_cell BKBE.out 0).trans rfl, (blk_cell BKBE.out 1).trans rfl⟩ (fun hHeld => ?_)
              clear hK K
              refine norm_ (a' := ?_) ?_ ?_
              rotate_left
              ·show Act.put _ (some 14) _ = _
               simp only [Act.put, sA_, sB_, sC_, i64_w, i32_w]
               rfl
              refine one_ (i := 3) (N := some 83) bLawsFnExactAddJump_9 rfl rfl (one_of HT_.out (by kernel_rfl)) (by decide) (fun K hK => ?_)
              refine goes_ Try.func106 (by kernel_rfl) rfl #[.agg #[.int .i64 a1_0, .int .i64 a1_1]] (by rfl) rfl rfl argS ?_
              with_reducible refine (laws_toJump.calls a1_0 a1_1 tCx tCy _ A129.out).mono ?_
              rintro e w143 ⟨rfl, hb⟩
              refine ⟨_, rfl, ?_⟩
              have n0_ := Aside0.mk (Kd.R_below (Kd.R_up HO_BW003.out) hb)
              have n1_ := Aside0.mk (Kd.R_below (Kd.R_up HO_C3003.out) hb)
              have n2_ := Aside0.mk (Kd.R_below (Kd.R_up HO_Cd003.out) hb)
              have n3_ := Aside0.mk (Kd.R_below (Kd.R_up HOCw.out) hb)
              have n4_ := Aside0.mk (blk_below (blk_up BKBD.out) hb)
              have n5_ := Aside0.mk (blk_below (blk_up BKBE.out) hb)
              have n6_ := Aside0.mk (blk_below (blk_up BKBV.out) hb)
              have n7_ := Aside0.mk (blk_below (blk_up BKC2.out) hb)
              have n8_ := Aside0.mk (blk_below (blk_up BKCc.out) hb)
              have n9_ := Aside0.mk (blk_below (blk_up BKCG.out) hb)
              have n10_ := Aside0.mk (below_step belS hb)
              clear HO_BW003
              clear HO_C3003
              clear HO_Cd003
              clear HOCw
              clear BKBD
              clear BKBE
              clear BKBV
              clear BKC2
              clear BKCc
              clear BKCG
              clear HB
              have HO_BW003 := n0_
              have HO_C3003 := n1_
              have HO_Cd003 := n2_
              have HOCw := n3_
              have BKBD := n4_
              have BKBE := n5_
              have BKBV := n6_
              have BKC2 := n7_
              have BKCc := n8_
              have BKCG := n9_
              have HB := n10_
              clear n0_ n1_ n2_ n3_ n4_ n5_ n6_ n7_ n8_ n9_ n10_
              (try clear hb)
              (try clear hb2)
              (try clear hk)
              (try clear hi)
              obtain ⟨Ao144, co144, eo144⟩ := Kd.R_slice HOCw.out
              (first | subst eo144 | (injection eo144 with f1_ f2_ f3_; have f4_ := f1_.symm; have f5_ := f3_.symm; clear f1_ f2_ f3_; subst f4_; subst f5_))
              refine hK.out _ _ ⟨(blk_cell BKBD.out 0).trans rfl, (blk_cell BKBD.out 1).trans rfl, (blk_cell BKBD.out 2).trans rfl, (blk_cell BKBD.out 3).trans rfl, (blk_cell BKBE.out 0).trans rfl, (blk_cell BKBE.out 1).trans rfl⟩ (fun hHeld => ?_)
              clear hK K
              refine norm_ (a' := ?_) ?_ ?_
              rotate_left
              ·show Act.put _ (some 83) _ = _
               simp only [Act.put, sA_, sB_, sC_, i64_w, i32_w]
               rfl
              refine one_ (i := 4) (N := some 84) bLawsFnExactAddJump_13 rfl rfl (one_of HT_.out (by kernel_rfl)) (by decide) (fun K hK => ?_)
              refine goes_ Try.func107 (by kernel_rfl) rfl #[.agg #[.int .i64 tCr, .int .i64 tCs, .int .i64 tCt, .slice Ao144 tCu.length co144], .agg #[.int .i64 tCx, .int .i64 tCy]] (by rfl) rfl rfl argS ?_
              with_reducible refine (impl_AddJump.calls kj80 tCr tCs tCt _ _ tCu tCx tCy tCz tCA tCB tCC tCF _ ?side1 ?side2 A130.out).mono ?_
              (case side1 => exact Kd.C_up (Kd.R_reads' HOCw.out).2.2)
              (case side2 => exact (Kd.R_reads' HOCw.out).2.1)
              rintro e w145 ⟨vCD, rfl, ho0, hb⟩
              refine ⟨_, rfl, ?_⟩
              have n0_ := Aside0.mk (Kd.R_elder' (Kd.R_up HO_BW003.out) (Kd.R_base ho0) hb)
              have n1_ := Aside0.mk (Kd.R_elder' (Kd.R_up HO_C3003.out) (Kd.R_base ho0) hb)
              have n2_ := Aside0.mk (Kd.R_elder' (Kd.R_up HO_Cd003.out) (Kd.R_base ho0) hb)
              have n3_ := Aside0.mk (Kd.R_elder' (Kd.R_up HOCw.out) (Kd.R_base ho0) hb)
              have n4_ := Aside0.mk (Kd.R_lower (Kd.R_new' (Kd.R_new' (Kd.R_new' (Kd.R_new' ho0 (Kd.R_lt (Kd.R_up HO_BW003.out))) (Kd.R_lt (Kd.R_up HO_C3003.out))) (Kd.R_lt (Kd.R_up HO_Cd003.out))) (Kd.R_lt (Kd.R_up HOCw.out))) (below_size belS))
              have n5_ := Aside0.mk (blk_below (blk_up BKBD.out) hb)
              have n6_ := Aside0.mk (blk_below (blk_up BKBE.out) hb)
              have n7_ := Aside0.mk (blk_below (blk_up BKBV.out) hb)
              have n8_ := Aside0.mk (blk_below (blk_up BKC2.out) hb)
              have n9_ := Aside0.mk (blk_below (blk_up BKCc.out) hb)
              have n10_ := Aside0.mk (blk_below (blk_up BKCG.out) hb)
              have n11_ := Aside0.mk (below_step belS hb)
              clear HO_BW003
              clear HO_C3003
              clear HO_Cd003
              clear HOCw
              clear BKBD
              clear BKBE
              clear BKBV
              clear BKC2
              clear BKCc
              clear BKCG
              clear HB
              have HO_BW003 := n0_
              have HO_C3003 := n1_
              have HO_Cd003 := n2_
              have HOCw := n3_
              have HOCE := n4_
              have BKBD := n5_
              have BKBE := n6_
              have BKBV := n7_
              have BKC2 := n8_
              have BKCc := n9_
              have BKCG := n10_
              have HB := n11_
              clear n0_ n1_ n2_ n3_ n4_ n5_ n6_ n7_ n8_ n9_ n10_ n11_
              (try clear hb)
              (try clear hb2)
              (try clear hk)
              (try clear hi)
              (try clear ho0)
              refine hK.out _ _ ⟨(blk_cell BKBD.out 0).trans rfl, (blk_cell BKBD.out 1).trans rfl, (blk_cell BKBD.out 2).trans rfl, (blk_cell BKBD.out 3).trans rfl, (blk_cell BKBE.out 0).trans rfl, (blk_cell BKBE.out 1).trans rfl⟩ (fun hHeld => ?_)
              clear hK K
              refine norm_ (a' := ?_) ?_ ?_
              rotate_left
              ·show Act.put _ (some 84) _ = _
               simp only [Act.put, sA_, sB_, sC_, i64_w, i32_w]
               rfl
              refine pure_ (i := 5) (N := some 79) (v := ?_) (a' := ?_) bLawsFnExactAddJump_14 rfl rfl (any_of HT_.out (by kernel_rfl)) (fun _ _ _ h => h) (Or.inl ⟨by rfl, ?_⟩) ?_ ?_
              rotate_left
              ·intro w'
               go_simp
               with_reducible rfl
              rotate_left
              ·simp only [Act.put, sA_, sB_, sC_, i64_w, i32_w]
               rfl
              refine pure_ (i := 6) (N := some 85) (v := ?_) (a' := ?_) bLawsFnExactAddJump_15 rfl rfl (any_of HT_.out (by kernel_rfl)) (fun _ _ _ h => h) (Or.inl ⟨by rfl, ?_⟩) ?_ ?_
              rotate_left
              ·intro w'
               go_simp
               with_reducible rfl
              rotate_left
              ·simp only [Act.put, sA_, sB_, sC_, i64_w, i32_w]
               rfl
              refine pure_ (i := 7) (N := some 86) (v := ?_) (a' := ?_) bLawsFnExactAddJump_3 rfl rfl (any_of HT_.out (by kernel_rfl)) (fun _ _ _ h => h) (Or.inl ⟨by rfl, ?_⟩) ?_ ?_
              rotate_left
              ·intro w'
               go_simp
               with_reducible rfl
              rotate_left
              ·simp only [Act.put, sA_, sB_, sC_, i64_w, i32_w]
               rfl
              exact norm_ (by simp only [putAll, Act.put, sA_, sB_, sC_]) (hCont (.slice Ao144 tCu.length co144, vCD, gbCG) _ ⟨hHeld, (by (with_reducible repeat (first | apply Kd.R_alloc | apply Kd.R_drewN | apply Kd.R_drew)); exact Kd.R_mono HOCw.out (fun _ hk => ⟨hk.2, ⟨hk.1.1.1.2, ⟨hk.1.1.2, hk.1.2⟩⟩⟩)), (by (with_reducible repeat (first | apply Kd.R_alloc | apply Kd.R_drewN | apply Kd.R_drew)); exact Kd.R_mono HOCE.out (fun _ hk => ⟨hk.2, ⟨hk.1.1.1.2, ⟨hk.1.1.2, hk.1.2⟩⟩⟩)), (by (with_reducible repeat (first | apply Kd.R_alloc | apply Kd.R_drewN | apply Kd.R_drew)); exact Kd.R_mono HO_BW003.out (fun _ hk => ⟨hk.1.2, ⟨hk.2, ⟨hk.1.1.1, hk.1.1.2⟩⟩⟩)), (by (with_reducible repeat (first | apply Kd.R_alloc | apply Kd.R_drewN | apply Kd.R_drew)); exact Kd.R_mono HO_C3003.out (fun _ hk => ⟨hk.1.2, ⟨hk.2, ⟨hk.1.1.1, hk.1.1.2⟩⟩⟩)), (by (with_reducible repeat (first | apply Kd.R_alloc | apply Kd.R_drewN | apply Kd.R_drew)); exact Kd.R_mono HO_Cd003.out (fun _ hk => ⟨hk.1.2, ⟨hk.2, ⟨hk.1.1.1, hk.1.1.2⟩⟩⟩)), (blk_up BKBD.out), (blk_up BKBE.out), (blk_up BKBV.out), (blk_up BKC2.out), (blk_up BKCc.out), (blk_up BKCG.out), GWCG.out, GECG.out, NBBD_CG.out, NBCG_BD.out, NBBE_CG.out, NBCG_BE.out, NBBV_CG.out, NBCG_BV.out, NBC2_CG.out, NBCG_C2.out, NBCc_CG.out, NBCG_Cc.out, belS⟩)
            ·skip
             refine box_step ?hg (N := 14) ?hd (cs := #[.int .i64 0, .int .i64 0, .int .i64 0, .slice none 0 0]) (t := 32) ?hr ?_; (case hd => rfl); (case hg => rfl); (case hr => first | (go_simp; done) | (go_simp; rfl))
             intro gbCG hg w141 hbox hb
             have n0_ := Aside0.mk (Kd.R_below (Kd.R_up HO_BW003.out) hb)
             have n1_ := Aside0.mk (Kd.R_below (Kd.R_up HO_C3003.out) hb)
             have n2_ := Aside0.mk (Kd.R_below (Kd.R_up HO_Cd003.out) hb)
             have n3_ := Aside0.mk (blk_below (blk_up BKBD.out) hb)
             have n4_ := Aside0.mk (blk_below (blk_up BKBE.out) hb)
             have n5_ := Aside0.mk (blk_below (blk_up BKBV.out) hb)
             have n6_ := Aside0.mk (blk_below (blk_up BKC2.out) hb)
             have n7_ := Aside0.mk (blk_below (blk_up BKCc.out) hb)
             have n8_ := Aside0.mk (below_step belS hb)
             have n9_ := Aside0.mk (hbox)
             have n10_ := Aside0.mk (geS hg : w.heap.size ≤ gbCG)
             have n11_ := Aside0.mk (geS hg : w.heap.size ≤ gbCG)
             have n12_ := Aside0.mk ((by rw [hg]; exact Nat.ne_of_lt (blk_lt (blk_up BKBD.out)) : gbBD ≠ gbCG))
             have n13_ := Aside0.mk ((by rw [hg]; exact Nat.ne_of_gt (blk_lt (blk_up BKBD.out)) : gbCG ≠ gbBD))
             have n14_ := Aside0.mk ((by rw [hg]; exact Nat.ne_of_lt (blk_lt (blk_up BKBE.out)) : gbBE ≠ gbCG))
             have n15_ := Aside0.mk ((by rw [hg]; exact Nat.ne_of_gt (blk_lt (blk_up BKBE.out)) : gbCG ≠ gbBE))
             have n16_ := Aside0.mk ((by rw [hg]; exact Nat.ne_of_lt (blk_lt (blk_up BKBV.out)) : gbBV ≠ gbCG))
             have n17_ := Aside0.mk ((by rw [hg]; exact Nat.ne_of_gt (blk_lt (blk_up BKBV.out)) : gbCG ≠ gbBV))
             have n18_ := Aside0.mk ((by rw [hg]; exact Nat.ne_of_lt (blk_lt (blk_up BKC2.out)) : gbC2 ≠ gbCG))
             have n19_ := Aside0.mk ((by rw [hg]; exact Nat.ne_of_gt (blk_lt (blk_up BKC2.out)) : gbCG ≠ gbC2))
             have n20_ := Aside0.mk ((by rw [hg]; exact Nat.ne_of_lt (blk_lt (blk_up BKCc.out)) : gbCc ≠ gbCG))
             have n21_ := Aside0.mk ((by rw [hg]; exact Nat.ne_of_gt (blk_lt (blk_up BKCc.out)) : gbCG ≠ gbCc))
             clear HO_BW003
             clear HO_C3003
             clear HO_Cd003
             clear BKBD
             clear BKBE
             clear BKBV
             clear BKC2
             clear BKCc
             clear HB
             have HO_BW003 := n0_
             have HO_C3003 := n1_
             have HO_Cd003 := n2_
             have BKBD := n3_
             have BKBE := n4_
             have BKBV := n5_
             have BKC2 := n6_
             have BKCc := n7_
             have HB := n8_
             have BKCG := n9_
             have GWCG := n10_
             have GECG := n11_
             have NBBD_CG := n12_
             have NBCG_BD := n13_
             have NBBE_CG := n14_
             have NBCG_BE := n15_
             have NBBV_CG := n16_
             have NBCG_BV := n17_
             have NBC2_CG := n18_
             have NBCG_C2 := n19_
             have NBCc_CG := n20_
             have NBCG_Cc := n21_
             clear n0_ n1_ n2_ n3_ n4_ n5_ n6_ n7_ n8_ n9_ n10_ n11_ n12_ n13_ n14_ n15_ n16_ n17_ n18_ n19_ n20_ n21_
             clear hb hbox hg
             refine hK.out _ _ ⟨(blk_cell BKBD.out 0).trans rfl, (blk_cell BKBD.out 1).trans rfl, (blk_cell BKBD.out 2).trans rfl, (blk_cell BKBD.out 3).trans rfl, (blk_cell BKBE.out 0).trans rfl, (blk_cell BKBE.out 1).trans rfl⟩ (fun hHeld => ?_)
             clear hK K
             refine norm_ (a' := ?_) ?_ ?_
             rotate_left
             ·show Act.put _ (some 14) _ = _
              simp only [Act.put, sA_, sB_, sC_, i64_w, i32_w]
              rfl
             refine one_ (i := 1) (N := some 81) bLawsFnExactAddJump_7 rfl rfl (one_of HT_.out (by kernel_rfl)) (by decide) (fun K hK => ?_)
             refine goes_ Try.func39 (by kernel_rfl) rfl #[.agg #[.int .i64 a0_0, .int .i64 a0_1, .int .i64 a0_2, .slice A0_3 l0_3.length c0_3]] (by rfl) rfl rfl argS ?_
             with_reducible refine (laws_toBoard.calls kj80 a0_0 a0_1 a0_2 _ _ l0_3 tCr tCs tCt tCu _ ?side1 ?side2 A128.out).mono ?_
             (case side1 => exact Kd.C_up (Kd.C_below HR0_3.out HB.out))
             (case side2 => exact HC0_3.out)
             rintro e w142 ⟨vCv, rfl, ho0, hb⟩
             refine ⟨_, rfl, ?_⟩
             have n0_ := Aside0.mk (Kd.R_elder' (Kd.R_up HO_BW003.out) (Kd.R_base ho0) hb)
             have n1_ := Aside0.mk (Kd.R_elder' (Kd.R_up HO_C3003.out) (Kd.R_base ho0) hb)
             have n2_ := Aside0.mk (Kd.R_elder' (Kd.R_up HO_Cd003.out) (Kd.R_base ho0) hb)
             have n3_ := Aside0.mk (Kd.R_lower (Kd.R_new' (Kd.R_new' (Kd.R_new' ho0 (Kd.R_lt (Kd.R_up HO_BW003.out))) (Kd.R_lt (Kd.R_up HO_C3003.out))) (Kd.R_lt (Kd.R_up HO_Cd003.out))) (below_size belS))
             have n4_ := Aside0.mk (blk_below (blk_up BKBD.out) hb)
             have n5_ := Aside0.mk (blk_below (blk_up BKBE.out) hb)
             have n6_ := Aside0.mk (blk_below (blk_up BKBV.out) hb)
             have n7_ := Aside0.mk (blk_below (blk_up BKC2.out) hb)
             have n8_ := Aside0.mk (blk_below (blk_up BKCc.out) hb)
             have n9_ := Aside0.mk (blk_below (blk_up BKCG.out) hb)
             have n10_ := Aside0.mk (below_step belS hb)
             clear HO_BW003
             clear HO_C3003
             clear HO_Cd003
             clear BKBD
             clear BKBE
             clear BKBV
             clear BKC2
             clear BKCc
             clear BKCG
             clear HB
             have HO_BW003 := n0_
             have HO_C3003 := n1_
             have HO_Cd003 := n2_
             have HOCw := n3_
             have BKBD := n4_
             have BKBE := n5_
             have BKBV := n6_
             have BKC2 := n7_
             have BKCc := n8_
             have BKCG := n9_
             have HB := n10_
             clear n0_ n1_ n2_ n3_ n4_ n5_ n6_ n7_ n8_ n9_ n10_
             (try clear hb)
             (try clear hb2)
             (try clear hk)
             (try clear hi)
             (try clear ho0)
             refine hK.out _ _ ⟨(blk_cell BKBD.out 0).trans rfl, (blk_cell BKBD.out 1).trans rfl, (blk_cell BKBD.out 2).trans rfl, (blk_cell BKBD.out 3).trans rfl, (blk_cell BKBE.out 0).trans rfl, (blk_cell BKBE.out 1).trans rfl⟩ (fun hHeld => ?_)
             clear hK K
             refine norm_ (a' := ?_) ?_ ?_
             rotate_left
             ·show Act.put _ (some 81) _ = _
              simp only [Act.put, sA_, sB_, sC_, i64_w, i32_w]
              rfl
             refine one_ (i := 3) (N := some 83) bLawsFnExactAddJump_9 rfl rfl (one_of HT_.out (by kernel_rfl)) (by decide) (fun K hK => ?_)
             refine goes_ Try.func106 (by kernel_rfl) rfl #[.agg #[.int .i64 a1_0, .int .i64 a1_1]] (by rfl) rfl rfl argS ?_
             with_reducible refine (laws_toJump.calls a1_0 a1_1 tCx tCy _ A129.out).mono ?_
             rintro e w143 ⟨rfl, hb⟩
             refine ⟨_, rfl, ?_⟩
             have n0_ := Aside0.mk (Kd.R_below (Kd.R_up HO_BW003.out) hb)
             have n1_ := Aside0.mk (Kd.R_below (Kd.R_up HO_C3003.out) hb)
             have n2_ := Aside0.mk (Kd.R_below (Kd.R_up HO_Cd003.out) hb)
             have n3_ := Aside0.mk (Kd.R_below (Kd.R_up HOCw.out) hb)
             have n4_ := Aside0.mk (blk_below (blk_up BKBD.out) hb)
             have n5_ := Aside0.mk (blk_below (blk_up BKBE.out) hb)
             have n6_ := Aside0.mk (blk_below (blk_up BKBV.out) hb)
             have n7_ := Aside0.mk (blk_below (blk_up BKC2.out) hb)
             have n8_ := Aside0.mk (blk_below (blk_up BKCc.out) hb)
             have n9_ := Aside0.mk (blk_below (blk_up BKCG.out) hb)
             have n10_ := Aside0.mk (below_step belS hb)
             clear HO_BW003
             clear HO_C3003
             clear HO_Cd003
             clear HOCw
             clear BKBD
             clear BKBE
             clear BKBV
             clear BKC2
             clear BKCc
             clear BKCG
             clear HB
             have HO_BW003 := n0_
             have HO_C3003 := n1_
             have HO_Cd003 := n2_
             have HOCw := n3_
             have BKBD := n4_
             have BKBE := n5_
             have BKBV := n6_
             have BKC2 := n7_
             have BKCc := n8_
             have BKCG := n9_
             have HB := n10_
             clear n0_ n1_ n2_ n3_ n4_ n5_ n6_ n7_ n8_ n9_ n10_
             (try clear hb)
             (try clear hb2)
             (try clear hk)
             (try clear hi)
             obtain ⟨Ao144, co144, eo144⟩ := Kd.R_slice HOCw.out
             (first | subst eo144 | (injection eo144 with f1_ f2_ f3_; have f4_ := f1_.symm; have f5_ := f3_.symm; clear f1_ f2_ f3_; subst f4_; subst f5_))
             refine hK.out _ _ ⟨(blk_cell BKBD.out 0).trans rfl, (blk_cell BKBD.out 1).trans rfl, (blk_cell BKBD.out 2).trans rfl, (blk_cell BKBD.out 3).trans rfl, (blk_cell BKBE.out 0).trans rfl, (blk_cell BKBE.out 1).trans rfl⟩ (fun hHeld => ?_)
             clear hK K
             refine norm_ (a' := ?_) ?_ ?_
             rotate_left
             ·show Act.put _ (some 83) _ = _
              simp only [Act.put, sA_, sB_, sC_, i64_w, i32_w]
              rfl
             refine one_ (i := 4) (N := some 84) bLawsFnExactAddJump_13 rfl rfl (one_of HT_.out (by kernel_rfl)) (by decide) (fun K hK => ?_)
             refine goes_ Try.func107 (by kernel_rfl) rfl #[.agg #[.int .i64 tCr, .int .i64 tCs, .int .i64 tCt, .slice Ao144 tCu.length co144], .agg #[.int .i64 tCx, .int .i64 tCy]] (by rfl) rfl rfl argS ?_
             with_reducible refine (impl_AddJump.calls kj80 tCr tCs tCt _ _ tCu tCx tCy tCz tCA tCB tCC tCF _ ?side1 ?side2 A130.out).mono ?_
             (case side1 => exact Kd.C_up (Kd.R_reads' HOCw.out).2.2)
             (case side2 => exact (Kd.R_reads' HOCw.out).2.1)
             rintro e w145 ⟨vCD, rfl, ho0, hb⟩
             refine ⟨_, rfl, ?_⟩
             have n0_ := Aside0.mk (Kd.R_elder' (Kd.R_up HO_BW003.out) (Kd.R_base ho0) hb)
             have n1_ := Aside0.mk (Kd.R_elder' (Kd.R_up HO_C3003.out) (Kd.R_base ho0) hb)
             have n2_ := Aside0.mk (Kd.R_elder' (Kd.R_up HO_Cd003.out) (Kd.R_base ho0) hb)
             have n3_ := Aside0.mk (Kd.R_elder' (Kd.R_up HOCw.out) (Kd.R_base ho0) hb)
             have n4_ := Aside0.mk (Kd.R_lower (Kd.R_new' (Kd.R_new' (Kd.R_new' (Kd.R_new' ho0 (Kd.R_lt (Kd.R_up HO_BW003.out))) (Kd.R_lt (Kd.R_up HO_C3003.out))) (Kd.R_lt (Kd.R_up HO_Cd003.out))) (Kd.R_lt (Kd.R_up HOCw.out))) (below_size belS))
             have n5_ := Aside0.mk (blk_below (blk_up BKBD.out) hb)
             have n6_ := Aside0.mk (blk_below (blk_up BKBE.out) hb)
             have n7_ := Aside0.mk (blk_below (blk_up BKBV.out) hb)
             have n8_ := Aside0.mk (blk_below (blk_up BKC2.out) hb)
             have n9_ := Aside0.mk (blk_below (blk_up BKCc.out) hb)
             have n10_ := Aside0.mk (blk_below (blk_up BKCG.out) hb)
             have n11_ := Aside0.mk (below_step belS hb)
             clear HO_BW003
             clear HO_C3003
             clear HO_Cd003
             clear HOCw
             clear BKBD
             clear BKBE
             clear BKBV
             clear BKC2
             clear BKCc
             clear BKCG
             clear HB
             have HO_BW003 := n0_
             have HO_C3003 := n1_
             have HO_Cd003 := n2_
             have HOCw := n3_
             have HOCE := n4_
             have BKBD := n5_
             have BKBE := n6_
             have BKBV := n7_
             have BKC2 := n8_
             have BKCc := n9_
             have BKCG := n10_
             have HB := n11_
             clear n0_ n1_ n2_ n3_ n4_ n5_ n6_ n7_ n8_ n9_ n10_ n11_
             (try clear hb)
             (try clear hb2)
             (try clear hk)
             (try clear hi)
             (try clear ho0)
             refine hK.out _ _ ⟨(blk_cell BKBD.out 0).trans rfl, (blk_cell BKBD.out 1).trans rfl, (blk_cell BKBD.out 2).trans rfl, (blk_cell BKBD.out 3).trans rfl, (blk_cell BKBE.out 0).trans rfl, (blk_cell BKBE.out 1).trans rfl⟩ (fun hHeld => ?_)
             clear hK K
             refine norm_ (a' := ?_) ?_ ?_
             rotate_left
             ·show Act.put _ (some 84) _ = _
              simp only [Act.put, sA_, sB_, sC_, i64_w, i32_w]
              rfl
             refine pure_ (i := 5) (N := some 79) (v := ?_) (a' := ?_) bLawsFnExactAddJump_14 rfl rfl (any_of HT_.out (by kernel_rfl)) (fun _ _ _ h => h) (Or.inl ⟨by rfl, ?_⟩) ?_ ?_
             rotate_left
             ·intro w'
              go_simp
              with_reducible rfl
             rotate_left
             ·simp only [Act.put, sA_, sB_, sC_, i64_w, i32_w]
              rfl
             refine pure_ (i := 6) (N := some 85) (v := ?_) (a' := ?_) bLawsFnExactAddJump_15 rfl rfl (any_of HT_.out (by kernel_rfl)) (fun _ _ _ h => h) (Or.inl ⟨by rfl, ?_⟩) ?_ ?_
             rotate_left
             ·intro w'
              go_simp
              with_reducible rfl
             rotate_left
             ·simp only [Act.put, sA_, sB_, sC_, i64_w, i32_w]
              rfl
             refine pure_ (i := 7) (N := some 86) (v := ?_) (a' := ?_) bLawsFnExactAddJump_3 rfl rfl (any_of HT_.out (by kernel_rfl)) (fun _ _ _ h => h) (Or.inl ⟨by rfl, ?_⟩) ?_ ?_
             rotate_left
             ·intro w'
              go_simp
              with_reducible rfl
             rotate_left
             ·simp only [Act.put, sA_, sB_, sC_, i64_w, i32_w]
              rfl
             exact norm_ (by simp only [putAll, Act.put, sA_, sB_, sC_]) (hCont (.slice Ao144 tCu.length co144, vCD, gbCG) _ ⟨hHeld, (by (with_reducible repeat (first | apply Kd.R_alloc | apply Kd.R_drewN | apply Kd.R_drew)); exact Kd.R_mono HOCw.out (fun _ hk => ⟨hk.2, ⟨hk.1.1.1.2, ⟨hk.1.1.2, hk.1.2⟩⟩⟩)), (by (with_reducible repeat (first | apply Kd.R_alloc | apply Kd.R_drewN | apply Kd.R_drew)); exact Kd.R_mono HOCE.out (fun _ hk => ⟨hk.2, ⟨hk.1.1.1.2, ⟨hk.1.1.2, hk.1.2⟩⟩⟩)), (by (with_reducible repeat (first | apply Kd.R_alloc | apply Kd.R_drewN | apply Kd.R_drew)); exact Kd.R_mono HO_BW003.out (fun _ hk => ⟨hk.1.2, ⟨hk.2, ⟨hk.1.1.1, hk.1.1.2⟩⟩⟩)), (by (with_reducible repeat (first | apply Kd.R_alloc | apply Kd.R_drewN | apply Kd.R_drew)); exact Kd.R_mono HO_C3003.out (fun _ hk => ⟨hk.1.2, ⟨hk.2, ⟨hk.1.1.1, hk.1.1.2⟩⟩⟩)), (by (with_reducible repeat (first | apply Kd.R_alloc | apply Kd.R_drewN | apply Kd.R_drew)); exact Kd.R_mono HO_Cd003.out (fun _ hk => ⟨hk.1.2, ⟨hk.2, ⟨hk.1.1.1, hk.1.1.2⟩⟩⟩)), (blk_up BKBD.out), (blk_up BKBE.out), (blk_up BKBV.out), (blk_up BKC2.out), (blk_up BKCc.out), (blk_up BKCG.out), GWCG.out, GECG.out, NBBD_CG.out, NBCG_BD.out, NBBE_CG.out, NBCG_BE.out, NBBV_CG.out, NBCG_BV.out, NBC2_CG.out, NBCG_C2.out, NBCc_CG.out, NBCG_Cc.out, belS⟩)
           rintro ⟨vCv, vCD, gbCG⟩ w146 ⟨hS_, h0_, h1_, h2_, h3_, h4_, h5_, h6_, h7_, h8_, h9_, h10_, h11_, h12_, h13_, h14_, h15_, h16_, h17_, h18_, h19_, h20_, h21_, h22_, h23_⟩
           have n0_ : Aside0 (Kd.R k27 27 w146 w.heap.size (fun k_ => some k_ ≠ (vCD : Value).ownBlock ∧ some k_ ≠ (.slice Ao32 tBR.length co32 : Value).ownBlock ∧ some k_ ≠ (.slice Ao42 tCm.length co42 : Value).ownBlock ∧ some k_ ≠ (.slice Ao52 tC8.length co52 : Value).ownBlock) vCv tCu) := ⟨h0_⟩
           have n1_ : Aside0 (Kd.R k27 27 w146 w.heap.size (fun k_ => some k_ ≠ (vCv : Value).ownBlock ∧ some k_ ≠ (.slice Ao32 tBR.length co32 : Value).ownBlock ∧ some k_ ≠ (.slice Ao42 tCm.length co42 : Value).ownBlock ∧ some k_ ≠ (.slice Ao52 tC8.length co52 : Value).ownBlock) vCD tCC) := ⟨h1_⟩
           have n2_ : Aside0 (Kd.R k27 27 w146 w.heap.size (fun k_ => some k_ ≠ (vCv : Value).ownBlock ∧ some k_ ≠ (vCD : Value).ownBlock ∧ some k_ ≠ (.slice Ao42 tCm.length co42 : Value).ownBlock ∧ some k_ ≠ (.slice Ao52 tC8.length co52 : Value).ownBlock) (.slice Ao32 tBR.length co32) tBR) := ⟨h2_⟩
           have n3_ : Aside0 (Kd.R k27 27 w146 w.heap.size (fun k_ => some k_ ≠ (vCv : Value).ownBlock ∧ some k_ ≠ (vCD : Value).ownBlock ∧ some k_ ≠ (.slice Ao32 tBR.length co32 : Value).ownBlock ∧ some k_ ≠ (.slice Ao52 tC8.length co52 : Value).ownBlock) (.slice Ao42 tCm.length co42) tCm) := ⟨h3_⟩
           have n4_ : Aside0 (Kd.R k27 27 w146 w.heap.size (fun k_ => some k_ ≠ (vCv : Value).ownBlock ∧ some k_ ≠ (vCD : Value).ownBlock ∧ some k_ ≠ (.slice Ao32 tBR.length co32 : Value).ownBlock ∧ some k_ ≠ (.slice Ao42 tCm.length co42 : Value).ownBlock) (.slice Ao52 tC8.length co52) tCp) := ⟨h4_⟩
           have n5_ : Aside0 (w146.heap[gbBD]? = some (.cells #[.int .i64 a0_0, .int .i64 a0_1, .int .i64 a0_2, .slice A0_3 l0_3.length c0_3] 24 (0, 0))) := ⟨h5_⟩
           have n6_ : Aside0 (w146.heap[gbBE]? = some (.cells #[.int .i64 a1_0, .int .i64 a1_1] 82 (0, 0))) := ⟨h6_⟩
           have n7_ : Aside0 (w146.heap[gbBV]? = some (.cells #[.int .i64 tBO, .int .i64 tBP, .int .i64 tBQ, .slice Ao32 tBR.length co32] 32 (0, 0))) := ⟨h7_⟩
           have n8_ : Aside0 (w146.heap[gbC2]? = some (.cells #[.int .i64 tBW, .int .i64 tBX, .int .i64 tBY, .slice Ao42 tCm.length co42] 32 (0, 0))) := ⟨h8_⟩
           have n9_ : Aside0 (w146.heap[gbCc]? = some (.cells #[.int .i64 tC5, .int .i64 tC6, .int .i64 tC7, .slice Ao52 tC8.length co52] 32 (0, 0))) := ⟨h9_⟩
           have n10_ : Aside0 (w146.heap[gbCG]? = some (.cells #[.int .i64 0, .int .i64 0, .int .i64 0, .slice none 0 0] 32 (0, 0))) := ⟨h10_⟩
           have n11_ : Aside0 (w.heap.size ≤ gbCG) := ⟨h11_⟩
           have n12_ : Aside0 (w.heap.size ≤ gbCG) := ⟨h12_⟩
           have n13_ : Aside0 (gbBD ≠ gbCG) := ⟨h13_⟩
           have n14_ : Aside0 (gbCG ≠ gbBD) := ⟨h14_⟩
           have n15_ : Aside0 (gbBE ≠ gbCG) := ⟨h15_⟩
           have n16_ : Aside0 (gbCG ≠ gbBE) := ⟨h16_⟩
           have n17_ : Aside0 (gbBV ≠ gbCG) := ⟨h17_⟩
           have n18_ : Aside0 (gbCG ≠ gbBV) := ⟨h18_⟩
           have n19_ : Aside0 (gbC2 ≠ gbCG) := ⟨h19_⟩
           have n20_ : Aside0 (gbCG ≠ gbC2) := ⟨h20_⟩
           have n21_ : Aside0 (gbCc ≠ gbCG) := ⟨h21_⟩
           have n22_ : Aside0 (gbCG ≠ gbCc) := ⟨h22_⟩
           have n23_ : Aside0 (Below w.heap.size w w146) := ⟨h23_⟩
           clear HO_BW003
           clear HO_C3003
           clear HO_Cd003
           clear BKBD
           clear BKBE
           clear BKBV
           clear BKC2
           clear BKCc
           clear HB
           clear h0_ h1_ h2_ h3_ h4_ h5_ h6_ h7_ h8_ h9_ h10_ h11_ h12_ h13_ h14_ h15_ h16_ h17_ h18_ h19_ h20_ h21_ h22_ h23_
           have HOCw := n0_
           have HOCE := n1_
           have HO_BW003 := n2_
           have HO_C3003 := n3_
           have HO_Cd003 := n4_
           have BKBD := n5_
           have BKBE := n6_
           have BKBV := n7_
           have BKC2 := n8_
           have BKCc := n9_
           have BKCG := n10_
           have GWCG := n11_
           have GECG := n12_
           have NBBD_CG := n13_
           have NBCG_BD := n14_
           have NBBE_CG := n15_
           have NBCG_BE := n16_
           have NBBV_CG := n17_
           have NBCG_BV := n18_
           have NBC2_CG := n19_
           have NBCG_C2 := n20_
           have NBCc_CG := n21_
           have NBCG_Cc := n22_
           have HB := n23_
           clear n0_ n1_ n2_ n3_ n4_ n5_ n6_ n7_ n8_ n9_ n10_ n11_ n12_ n13_ n14_ n15_ n16_ n17_ n18_ n19_ n20_ n21_ n22_ n23_
           have hHeld : w146.cell? ⟨gbBD, 0, none⟩ = some (.int .i64 a0_0) ∧ w146.cell? ⟨gbBD, 1, none⟩ = some (.int .i64 a0_1) ∧ w146.cell? ⟨gbBD, 2, none⟩ = some (.int .i64 a0_2) ∧ w146.cell? ⟨gbBD, 3, none⟩ = some (.slice A0_3 l0_3.length c0_3) ∧ w146.cell? ⟨gbBE, 0, none⟩ = some (.int .i64 a1_0) ∧ w146.cell? ⟨gbBE, 1, none⟩ = some (.int .i64 a1_1) := hS_
           obtain ⟨Ao150, co150, eo150⟩ := Kd.R_slice HOCE.out
           (first | subst eo150 | (injection eo150 with f1_ f2_ f3_; have f4_ := f1_.symm; have f5_ := f3_.symm; clear f1_ f2_ f3_; subst f4_; subst f5_))
           refine norm_ (a' := ?_) ?_ ?_
           rotate_left
           ·simp only [putAll, Act.put, sA_, sB_, sC_]
            rfl
           refine one_ (i := 9) (N := none) bLawsFnExactAddJump_16 rfl rfl (one_of HT_.out (by kernel_rfl)) (by decide) (fun K hK => ?_)
           have hs147 : w146.cell? ⟨gbCG, 0, none⟩ = some (.int .i64 0) := (blk_cell BKCG.out 0).trans rfl
           have hfs147 := blk_frozen BKCG.out 0
           have hns147_0 := NBBD_CG.out
           have hns147_1 := NBBE_CG.out
           have hns147_2 := NBBV_CG.out
           have hns147_3 := NBC2_CG.out
           have hns147_4 := NBCc_CG.out
           have hms147_0 := NBCG_BD.out
           have hms147_1 := NBCG_BE.out
           have hms147_2 := NBCG_BV.out
           have hms147_3 := NBCG_C2.out
           have hms147_4 := NBCG_Cc.out
           have hs148 : w146.cell? ⟨gbCG, 1, none⟩ = some (.int .i64 0) := (blk_cell BKCG.out 1).trans rfl
           have hfs148 := blk_frozen BKCG.out 1
           have hns148_0 := NBBD_CG.out
           have hns148_1 := NBBE_CG.out
           have hns148_2 := NBBV_CG.out
           have hns148_3 := NBC2_CG.out
           have hns148_4 := NBCc_CG.out
           have hms148_0 := NBCG_BD.out
           have hms148_1 := NBCG_BE.out
           have hms148_2 := NBCG_BV.out
           have hms148_3 := NBCG_C2.out
           have hms148_4 := NBCG_Cc.out
           have hs149 : w146.cell? ⟨gbCG, 2, none⟩ = some (.int .i64 0) := (blk_cell BKCG.out 2).trans rfl
           have hfs149 := blk_frozen BKCG.out 2
           have hns149_0 := NBBD_CG.out
           have hns149_1 := NBBE_CG.out
           have hns149_2 := NBBV_CG.out
           have hns149_3 := NBC2_CG.out
           have hns149_4 := NBCc_CG.out
           have hms149_0 := NBCG_BD.out
           have hms149_1 := NBCG_BE.out
           have hms149_2 := NBCG_BV.out
           have hms149_3 := NBCG_C2.out
           have hms149_4 := NBCG_Cc.out
           have hs151 : w146.cell? ⟨gbCG, 3, none⟩ = some (.slice none 0 0) := (blk_cell BKCG.out 3).trans rfl
           have hfs151 := blk_frozen BKCG.out 3
           have hns151_0 := NBBD_CG.out
           have hns151_1 := NBBE_CG.out
           have hns151_2 := NBBV_CG.out
           have hns151_3 := NBC2_CG.out
           have hns151_4 := NBCc_CG.out
           have hms151_0 := NBCG_BD.out
           have hms151_1 := NBCG_BE.out
           have hms151_2 := NBCG_BV.out
           have hms151_3 := NBCG_C2.out
           have hms151_4 := NBCG_Cc.out
           refine skip_ (w1 := ?_) (by rfl) rfl ?_ ?_
           rotate_left
           ·go_simp
            rfl
           refine hK.out _ _ ⟨((cell_far (p := ⟨gbCG, _, none⟩) NBBD_CG.out _).trans (((cell_far (p := ⟨gbCG, _, none⟩) NBBD_CG.out _).trans (((cell_far (p := ⟨gbCG, _, none⟩) NBBD_CG.out _).trans (((cell_far (p := ⟨gbCG, _, none⟩) NBBD_CG.out _).trans (hHeld.1)))))))), ((cell_far (p := ⟨gbCG, _, none⟩) NBBD_CG.out _).trans (((cell_far (p := ⟨gbCG, _, none⟩) NBBD_CG.out _).trans (((cell_far (p := ⟨gbCG, _, none⟩) NBBD_CG.out _).trans (((cell_far (p := ⟨gbCG, _, none⟩) NBBD_CG.out _).trans (hHeld.2.1)))))))), ((cell_far (p := ⟨gbCG, _, none⟩) NBBD_CG.out _).trans (((cell_far (p := ⟨gbCG, _, none⟩) NBBD_CG.out _).trans (((cell_far (p := ⟨gbCG, _, none⟩) NBBD_CG.out _).trans (((cell_far (p := ⟨gbCG, _, none⟩) NBBD_CG.out _).trans (hHeld.2.2.1)))))))), ((cell_far (p := ⟨gbCG, _, none⟩) NBBD_CG.out _).trans (((cell_far (p := ⟨gbCG, _, none⟩) NBBD_CG.out _).trans (((cell_far (p := ⟨gbCG, _, none⟩) NBBD_CG.out _).trans (((cell_far (p := ⟨gbCG, _, none⟩) NBBD_CG.out _).trans (hHeld.2.2.2.1)))))))), ((cell_far (p := ⟨gbCG, _, none⟩) NBBE_CG.out _).trans (((cell_far (p := ⟨gbCG, _, none⟩) NBBE_CG.out _).trans (((cell_far (p := ⟨gbCG, _, none⟩) NBBE_CG.out _).trans (((cell_far (p := ⟨gbCG, _, none⟩) NBBE_CG.out _).trans (hHeld.2.2.2.2.1)))))))), ((cell_far (p := ⟨gbCG, _, none⟩) NBBE_CG.out _).trans (((cell_far (p := ⟨gbCG, _, none⟩) NBBE_CG.out _).trans (((cell_far (p := ⟨gbCG, _, none⟩) NBBE_CG.out _).trans (((cell_far (p := ⟨gbCG, _, none⟩) NBBE_CG.out _).trans (hHeld.2.2.2.2.2))))))))⟩ (fun hHeld => ?_)
           clear hK K
           refine pure_ (i := 10) (N := some 15) (v := ?_) (a' := ?_) bLawsFnExactAddJump_17 rfl rfl (any_of HT_.out (by kernel_rfl)) (fun _ _ _ h => h) (Or.inl ⟨by rfl, ?_⟩) ?_ ?_
           rotate_left
           ·intro w'
            go_simp
            with_reducible rfl
           rotate_left
           ·simp only [Act.put, sA_, sB_, sC_, i64_w, i32_w]
            rfl
           refine done_ (done_of HT_.out (by kernel_rfl)) ?_
           go_upto_region 25 with (fail)
           go_cut [95] (fun v95 wc => ∃ (kq : Nat) (x95_130 : Bool), v95 = .bool x95_130 ∧ Aside0 (laws_FnExactAddJump.j2 kq tCo x95_130 tC5 tC6 tC7 tCp = some r) ∧ Aside0 (kq ≤ kj80) ∧ Aside0 (Kd.R k27 27 wc w.heap.size (fun k_ => some k_ ≠ ((.slice Ao42 tCm.length co42) : Value).ownBlock ∧ some k_ ≠ ((.slice Ao52 tC8.length co52) : Value).ownBlock ∧ some k_ ≠ ((.slice Ao150 tCC.length co150) : Value).ownBlock) (.slice Ao32 tBR.length co32) tBR) ∧ Aside0 (Kd.R k27 27 wc w.heap.size (fun k_ => some k_ ≠ ((.slice Ao32 tBR.length co32) : Value).ownBlock ∧ some k_ ≠ ((.slice Ao52 tC8.length co52) : Value).ownBlock ∧ some k_ ≠ ((.slice Ao150 tCC.length co150) : Value).ownBlock) (.slice Ao42 tCm.length co42) tCm) ∧ Aside0 (Kd.R k27 27 wc w.heap.size (fun k_ => some k_ ≠ ((.slice Ao32 tBR.length co32) : Value).ownBlock ∧ some k_ ≠ ((.slice Ao42 tCm.length co42) : Value).ownBlock ∧ some k_ ≠ ((.slice Ao150 tCC.length co150) : Value).ownBlock) (.slice Ao52 tC8.length co52) tCp) ∧ Aside0 (Kd.R k27 27 wc w.heap.size (fun k_ => some k_ ≠ ((.slice Ao32 tBR.length co32) : Value).ownBlock ∧ some k_ ≠ ((.slice Ao42 tCm.length co42) : Value).ownBlock ∧ some k_ ≠ ((.slice Ao52 tC8.length co52) : Value).ownBlock) (.slice Ao150 tCC.length co150) tCC) ∧ Aside0 (wc.heap[gbBD]? = some (.cells #[.int .i64 a0_0, .int .i64 a0_1, .int .i64 a0_2, (.slice A0_3 l0_3.length c0_3)] 24 (0, 0))) ∧ Aside0 (wc.heap[gbBE]? = some (.cells #[.int .i64 a1_0, .int .i64 a1_1] 82 (0, 0))) ∧ Aside0 (wc.heap[gbBV]? = some (.cells #[.int .i64 tBO, .int .i64 tBP, .int .i64 tBQ, (.slice Ao32 tBR.length co32)] 32 (0, 0))) ∧ Aside0 (wc.heap[gbC2]? = some (.cells #[.int .i64 tBW, .int .i64 tBX, .int .i64 tBY, (.slice Ao42 tCm.length co42)] 32 (0, 0))) ∧ Aside0 (wc.heap[gbCc]? = some (.cells #[.int .i64 tC5, .int .i64 tC6, .int .i64 tC7, (.slice Ao52 tC8.length co52)] 32 (0, 0))) ∧ Aside0 (wc.heap[gbCG]? = some (.cells #[.int .i64 tCz, .int .i64 tCA, .int .i64 tCB, (.slice Ao150 tCC.length co150)] 32 (0, 0))) ∧ Aside0 (Below w.heap.size w wc))
           case first =>
            have H := HC131.out
            clear HC131
            replace H := Option.bind_eq_some_iff.mp H
            obtain ⟨tCH, A1520, H⟩ := H
            replace H : (if tCH = true then (laws_FnExactAddJump.j2 kj80 tCo (tCF != tBU) tC5 tC6 tC7 tCp) else (laws_FnExactAddJump.j2 kj80 tCo true tC5 tC6 tC7 tCp)) = some r := H
            have A152 := Aside0.mk A1520
            clear A1520
            by_cases c153 : tCH = true
            ·subst c153
             have H1 : (laws_FnExactAddJump.j2 kj80 tCo (tCF != tBU) tC5 tC6 tC7 tCp) = some r := by rw [if_pos rfl] at H; exact H
             clear H
             have H := H1
             clear H1
             have H' := Aside0.mk H
             clear H
             have hnb154 := NBCG_BD.out
             have hnc154 := NBBD_CG.out
             have hnb155 := NBCG_BE.out
             have hnc155 := NBBE_CG.out
             have hnb156 := NBCG_BV.out
             have hnc156 := NBBV_CG.out
             have hnb157 := NBCG_C2.out
             have hnc157 := NBC2_CG.out
             have hnb158 := NBCG_Cc.out
             have hnc158 := NBCc_CG.out
             obtain ⟨hcz159_0, hcz159_1, hcz159_2, hcz159_3, hfz159_0, hfz159_1, hfz159_2, hfz159_3⟩ := blk4 BKCG.out
             have hnb160 := NBBV_BD.out
             have hnc160 := NBBD_BV.out
             have hnb161 := NBBV_BE.out
             have hnc161 := NBBE_BV.out
             have hnb162 := NBBV_C2.out
             have hnc162 := NBC2_BV.out
             have hnb163 := NBBV_Cc.out
             have hnc163 := NBCc_BV.out
             obtain ⟨hcz164_0, hcz164_1, hcz164_2, hcz164_3, hfz164_0, hfz164_1, hfz164_2, hfz164_3⟩ := blk4 BKBV.out
             go_wp2_with (first | ((with_reducible refine gate_callee (f := 42) rfl ?_); refine goesL_ (some 89) rfl rfl Try.func42 (by kernel_rfl) rfl #[.agg #[.int .i64 tCz, .int .i64 tCA, .int .i64 tCB, .slice Ao150 tCC.length co150], .agg #[.int .i64 tBO, .int .i64 tBP, .int .i64 tBQ, .slice Ao32 tBR.length co32]] rfl argS ?_; (with_reducible refine (laws_eqBoard.calls kj80 tCz tCA tCB _ _ tCC tBO tBP tBQ _ _ tBR true _ ?side1 ?side2 ?side3 ?side4 A152.out).mono ?_); (case side1 => refine (Kd.R_reads' (e := 27) (base := w.heap.size) (ok := fun k_ => (some k_ ≠ (vCv : Value).ownBlock ∧ (some k_ ≠ (.slice Ao32 tBR.length co32 : Value).ownBlock ∧ (some k_ ≠ (.slice Ao42 tCm.length co42 : Value).ownBlock ∧ some k_ ≠ (.slice Ao52 tC8.length co52 : Value).ownBlock)))) (n := tCC.length) (c := co150) ?_).2.2; exact (by (with_reducible repeat (first | apply Kd.R_alloc | apply Kd.R_drewN | apply Kd.R_drew)); exact (Kd.R_mono (Kd.R_far (p := ⟨gbCG, 3, none⟩) (Kd.R_far (p := ⟨gbCG, 2, none⟩) (Kd.R_far (p := ⟨gbCG, 1, none⟩) (Kd.R_far (p := ⟨gbCG, 0, none⟩) (Kd.R_types HOCE.out BKCG.out (by decide)) (fun _ hk => hk.2) (.int .i64 tCz)) (fun _ hk => hk.2) (.int .i64 tCA)) (fun _ hk => hk.2) (.int .i64 tCB)) (fun _ hk => hk.2) (.slice Ao150 tCC.length co150)) (fun _ h_ => h_.1)))); (case side2 => exact (Kd.R_reads' HOCE.out).2.1); (case side3 => refine (Kd.R_reads' (e := 27) (base := w.heap.size) (ok := fun k_ => (some k_ ≠ (vCv : Value).ownBlock ∧ (some k_ ≠ (.slice Ao150 tCC.length co150 : Value).ownBlock ∧ (some k_ ≠ (.slice Ao42 tCm.length co42 : Value).ownBlock ∧ some k_ ≠ (.slice Ao52 tC8.length co52 : Value).ownBlock)))) (n := tBR.length) (c := co32) ?_).2.2; exact (by (with_reducible repeat (first | apply Kd.R_alloc | apply Kd.R_drewN | apply Kd.R_drew)); exact (Kd.R_mono (Kd.R_far (p := ⟨gbCG, 3, none⟩) (Kd.R_far (p := ⟨gbCG, 2, none⟩) (Kd.R_far (p := ⟨gbCG, 1, none⟩) (Kd.R_far (p := ⟨gbCG, 0, none⟩) (Kd.R_types HO_BW003.out BKCG.out (by decide)) (fun _ hk => hk.2) (.int .i64 tCz)) (fun _ hk => hk.2) (.int .i64 tCA)) (fun _ hk => hk.2) (.int .i64 tCB)) (fun _ hk => hk.2) (.slice Ao150 tCC.length co150)) (fun _ h_ => h_.1)))); (case side4 => exact (Kd.R_reads' HO_BW003.out).2.1); rintro e w165 ⟨rfl, hb⟩; refine ⟨_, rfl, ?_⟩; have n0_ := Aside0.mk (Kd.R_below (by (with_reducible repeat (first | apply Kd.R_alloc | apply Kd.R_drewN | apply Kd.R_drew)); exact (Kd.R_mono (Kd.R_far (p := ⟨gbCG, 3, none⟩) (Kd.R_far (p := ⟨gbCG, 2, none⟩) (Kd.R_far (p := ⟨gbCG, 1, none⟩) (Kd.R_far (p := ⟨gbCG, 0, none⟩) (Kd.R_types HO_BW003.out BKCG.out (by decide)) (fun _ hk => hk.2) (.int .i64 tCz)) (fun _ hk => hk.2) (.int .i64 tCA)) (fun _ hk => hk.2) (.int .i64 tCB)) (fun _ hk => hk.2) (.slice Ao150 tCC.length co150)) (fun _ h_ => h_.1))) hb); have n1_ := Aside0.mk (Kd.R_below (by (with_reducible repeat (first | apply Kd.R_alloc | apply Kd.R_drewN | apply Kd.R_drew)); exact (Kd.R_mono (Kd.R_far (p := ⟨gbCG, 3, none⟩) (Kd.R_far (p := ⟨gbCG, 2, none⟩) (Kd.R_far (p := ⟨gbCG, 1, none⟩) (Kd.R_far (p := ⟨gbCG, 0, none⟩) (Kd.R_types HO_C3003.out BKCG.out (by decide)) (fun _ hk => hk.2) (.int .i64 tCz)) (fun _ hk => hk.2) (.int .i64 tCA)) (fun _ hk => hk.2) (.int .i64 tCB)) (fun _ hk => hk.2) (.slice Ao150 tCC.length co150)) (fun _ h_ => h_.1))) hb); have n2_ := Aside0.mk (Kd.R_below (by (with_reducible repeat (first | apply Kd.R_alloc | apply Kd.R_drewN | apply Kd.R_drew)); exact (Kd.R_mono (Kd.R_far (p := ⟨gbCG, 3, none⟩) (Kd.R_far (p := ⟨gbCG, 2, none⟩) (Kd.R_far (p := ⟨gbCG, 1, none⟩) (Kd.R_far (p := ⟨gbCG, 0, none⟩) (Kd.R_types HO_Cd003.out BKCG.out (by decide)) (fun _ hk => hk.2) (.int .i64 tCz)) (fun _ hk => hk.2) (.int .i64 tCA)) (fun _ hk => hk.2) (.int .i64 tCB)) (fun _ hk => hk.2) (.slice Ao150 tCC.length co150)) (fun _ h_ => h_.1))) hb); have n3_ := Aside0.mk (Kd.R_below (by (with_reducible repeat (first | apply Kd.R_alloc | apply Kd.R_drewN | apply Kd.R_drew)); exact (Kd.R_mono (Kd.R_far (p := ⟨gbCG, 3, none⟩) (Kd.R_far (p := ⟨gbCG, 2, none⟩) (Kd.R_far (p := ⟨gbCG, 1, none⟩) (Kd.R_far (p := ⟨gbCG, 0, none⟩) (Kd.R_types HOCw.out BKCG.out (by decide)) (fun _ hk => hk.2) (.int .i64 tCz)) (fun _ hk => hk.2) (.int .i64 tCA)) (fun _ hk => hk.2) (.int .i64 tCB)) (fun _ hk => hk.2) (.slice Ao150 tCC.length co150)) (fun _ h_ => h_.1))) hb); have n4_ := Aside0.mk (Kd.R_below (by (with_reducible repeat (first | apply Kd.R_alloc | apply Kd.R_drewN | apply Kd.R_drew)); exact (Kd.R_mono (Kd.R_far (p := ⟨gbCG, 3, none⟩) (Kd.R_far (p := ⟨gbCG, 2, none⟩) (Kd.R_far (p := ⟨gbCG, 1, none⟩) (Kd.R_far (p := ⟨gbCG, 0, none⟩) (Kd.R_types HOCE.out BKCG.out (by decide)) (fun _ hk => hk.2) (.int .i64 tCz)) (fun _ hk => hk.2) (.int .i64 tCA)) (fun _ hk => hk.2) (.int .i64 tCB)) (fun _ hk => hk.2) (.slice Ao150 tCC.length co150)) (fun _ h_ => h_.1))) hb); have n5_ := Aside0.mk (blk_below (g := gbBD) (o := .cells #[.int .i64 a0_0, .int .i64 a0_1, .int .i64 a0_2, .slice A0_3 l0_3.length c0_3] 24 (0, 0)) (by (with_reducible repeat (first | refine blk_drewN ?_ _ | refine blk_drew ?_ | refine blk_alloc ?_ _)); refine blk_farU ?_ NBBD_CG.out _; refine blk_farU ?_ NBBD_CG.out _; refine blk_farU ?_ NBBD_CG.out _; refine blk_farU ?_ NBBD_CG.out _; exact BKBD.out) hb); have n6_ := Aside0.mk (blk_below (g := gbBE) (o := .cells #[.int .i64 a1_0, .int .i64 a1_1] 82 (0, 0)) (by (with_reducible repeat (first | refine blk_drewN ?_ _ | refine blk_drew ?_ | refine blk_alloc ?_ _)); refine blk_farU ?_ NBBE_CG.out _; refine blk_farU ?_ NBBE_CG.out _; refine blk_farU ?_ NBBE_CG.out _; refine blk_farU ?_ NBBE_CG.out _; exact BKBE.out) hb); have n7_ := Aside0.mk (blk_below (g := gbBV) (o := .cells #[.int .i64 tBO, .int .i64 tBP, .int .i64 tBQ, .slice Ao32 tBR.length co32] 32 (0, 0)) (by (with_reducible repeat (first | refine blk_drewN ?_ _ | refine blk_drew ?_ | refine blk_alloc ?_ _)); refine blk_farU ?_ NBBV_CG.out _; refine blk_farU ?_ NBBV_CG.out _; refine blk_farU ?_ NBBV_CG.out _; refine blk_farU ?_ NBBV_CG.out _; exact BKBV.out) hb); have n8_ := Aside0.mk (blk_below (g := gbC2) (o := .cells #[.int .i64 tBW, .int .i64 tBX, .int .i64 tBY, .slice Ao42 tCm.length co42] 32 (0, 0)) (by (with_reducible repeat (first | refine blk_drewN ?_ _ | refine blk_drew ?_ | refine blk_alloc ?_ _)); refine blk_farU ?_ NBC2_CG.out _; refine blk_farU ?_ NBC2_CG.out _; refine blk_farU ?_ NBC2_CG.out _; refine blk_farU ?_ NBC2_CG.out _; exact BKC2.out) hb); have n9_ := Aside0.mk (blk_below (g := gbCc) (o := .cells #[.int .i64 tC5, .int .i64 tC6, .int .i64 tC7, .slice Ao52 tC8.length co52] 32 (0, 0)) (by (with_reducible repeat (first | refine blk_drewN ?_ _ | refine blk_drew ?_ | refine blk_alloc ?_ _)); refine blk_farU ?_ NBCc_CG.out _; refine blk_farU ?_ NBCc_CG.out _; refine blk_farU ?_ NBCc_CG.out _; refine blk_farU ?_ NBCc_CG.out _; exact BKCc.out) hb); have n10_ := Aside0.mk (blk_below (g := gbCG) (o := .cells #[.int .i64 tCz, .int .i64 tCA, .int .i64 tCB, .slice Ao150 tCC.length co150] 32 (0, 0)) (by (with_reducible repeat (first | refine blk_drewN ?_ _ | refine blk_drew ?_ | refine blk_alloc ?_ _)); refine blk_put (cs := #[.int .i64 tCz, .int .i64 tCA, .int .i64 tCB, .slice none 0 0]) ?_ 3 _ rfl; refine blk_put (cs := #[.int .i64 tCz, .int .i64 tCA, .int .i64 0, .slice none 0 0]) ?_ 2 _ rfl; refine blk_put (cs := #[.int .i64 tCz, .int .i64 0, .int .i64 0, .slice none 0 0]) ?_ 1 _ rfl; refine blk_putU (cs := #[.int .i64 0, .int .i64 0, .int .i64 0, .slice none 0 0]) ?_ 0 _ rfl; exact BKCG.out) hb); have n11_ := Aside0.mk (below_step belS hb); clear HO_BW003 HO_C3003 HO_Cd003 HOCw HOCE BKBD BKBE BKBV BKC2 BKCc BKCG HB; revert n0_ n1_ n2_ n3_ n4_ n5_ n6_ n7_ n8_ n9_ n10_ n11_; intro HO_BW003 HO_C3003 HO_Cd003 HOCw HOCE BKBD BKBE BKBV BKC2 BKCc BKCG HB; (try clear hb); (try clear hk)))
             go_meet
             case rel => exact ⟨_, ((tCF != tBU)), (by first | rfl | (simp; done) | (simp [*]; done)), H', ⟨by have := HJ15.out; have := HJ80.out; first | omega | exact Nat.le_refl _⟩, ⟨by (try simp only [hlC3003_80]); (with_reducible repeat (first | apply Kd.R_alloc | apply Kd.R_drewN | apply Kd.R_drew)); exact Kd.R_mono HO_BW003.out (fun _ hk => ⟨hk.2.2.1, ⟨hk.2.2.2, hk.2.1⟩⟩)⟩, ⟨by (try simp only [hlC3003_80]); (with_reducible repeat (first | apply Kd.R_alloc | apply Kd.R_drewN | apply Kd.R_drew)); exact Kd.R_mono HO_C3003.out (fun _ hk => ⟨hk.2.2.1, ⟨hk.2.2.2, hk.2.1⟩⟩)⟩, ⟨by (try simp only [hlC3003_80]); (with_reducible repeat (first | apply Kd.R_alloc | apply Kd.R_drewN | apply Kd.R_drew)); exact Kd.R_mono HO_Cd003.out (fun _ hk => ⟨hk.2.2.1, ⟨hk.2.2.2, hk.2.1⟩⟩)⟩, ⟨by (try simp only [hlC3003_80]); (with_reducible repeat (first | apply Kd.R_alloc | apply Kd.R_drewN | apply Kd.R_drew)); exact Kd.R_mono HOCE.out (fun _ hk => ⟨hk.2.1, ⟨hk.2.2.1, hk.2.2.2⟩⟩)⟩, ⟨by (try simp only [hlC3003_80]); (with_reducible repeat (first | refine blk_drewN ?_ _ | refine blk_drew ?_ | refine blk_alloc ?_ _)); exact BKBD.out⟩, ⟨by (try simp only [hlC3003_80]); (with_reducible repeat (first | refine blk_drewN ?_ _ | refine blk_drew ?_ | refine blk_alloc ?_ _)); exact BKBE.out⟩, ⟨by (try simp only [hlC3003_80]); (with_reducible repeat (first | refine blk_drewN ?_ _ | refine blk_drew ?_ | refine blk_alloc ?_ _)); exact BKBV.out⟩, ⟨by (try simp only [hlC3003_80]); (with_reducible repeat (first | refine blk_drewN ?_ _ | refine blk_drew ?_ | refine blk_alloc ?_ _)); exact BKC2.out⟩, ⟨by (try simp only [hlC3003_80]); (with_reducible repeat (first | refine blk_drewN ?_ _ | refine blk_drew ?_ | refine blk_alloc ?_ _)); exact BKCc.out⟩, ⟨by (try simp only [hlC3003_80]); (with_reducible repeat (first | refine blk_drewN ?_ _ | refine blk_drew ?_ | refine blk_alloc ?_ _)); exact BKCG.out⟩, ⟨by exact belS⟩⟩
            ·replace c153 := Bool.eq_false_iff.mpr c153
             subst c153
             have H1 : (laws_FnExactAddJump.j2 kj80 tCo true tC5 tC6 tC7 tCp) = some r := by rw [if_neg (show ¬ (false = true) by decide)] at H; exact H
             clear H
             have H := H1
             clear H1
             have H' := Aside0.mk H
             clear H
             have hnb166 := NBCG_BD.out
             have hnc166 := NBBD_CG.out
             have hnb167 := NBCG_BE.out
             have hnc167 := NBBE_CG.out
             have hnb168 := NBCG_BV.out
             have hnc168 := NBBV_CG.out
             have hnb169 := NBCG_C2.out
             have hnc169 := NBC2_CG.out
             have hnb170 := NBCG_Cc.out
             have hnc170 := NBCc_CG.out
             obtain ⟨hcz171_0, hcz171_1, hcz171_2, hcz171_3, hfz171_0, hfz171_1, hfz171_2, hfz171_3⟩ := blk4 BKCG.out
             have hnb172 := NBBV_BD.out
             have hnc172 := NBBD_BV.out
             have hnb173 := NBBV_BE.out
             have hnc173 := NBBE_BV.out
             have hnb174 := NBBV_C2.out
             have hnc174 := NBC2_BV.out
             have hnb175 := NBBV_Cc.out
             have hnc175 := NBCc_BV.out
             obtain ⟨hcz176_0, hcz176_1, hcz176_2, hcz176_3, hfz176_0, hfz176_1, hfz176_2, hfz176_3⟩ := blk4 BKBV.out
             go_wp2_with (first | ((with_reducible refine gate_callee (f := 42) rfl ?_); refine goesL_ (some 89) rfl rfl Try.func42 (by kernel_rfl) rfl #[.agg #[.int .i64 tCz, .int .i64 tCA, .int .i64 tCB, .slice Ao150 tCC.length co150], .agg #[.int .i64 tBO, .int .i64 tBP, .int .i64 tBQ, .slice Ao32 tBR.length co32]] rfl argS ?_; (with_reducible refine (laws_eqBoard.calls kj80 tCz tCA tCB _ _ tCC tBO tBP tBQ _ _ tBR false _ ?side1 ?side2 ?side3 ?side4 A152.out).mono ?_); (case side1 => refine (Kd.R_reads' (e := 27) (base := w.heap.size) (ok := fun k_ => (some k_ ≠ (vCv : Value).ownBlock ∧ (some k_ ≠ (.slice Ao32 tBR.length co32 : Value).ownBlock ∧ (some k_ ≠ (.slice Ao42 tCm.length co42 : Value).ownBlock ∧ some k_ ≠ (.slice Ao52 tC8.length co52 : Value).ownBlock)))) (n := tCC.length) (c := co150) ?_).2.2; exact (by (with_reducible repeat (first | apply Kd.R_alloc | apply Kd.R_drewN | apply Kd.R_drew)); exact (Kd.R_mono (Kd.R_far (p := ⟨gbCG, 3, none⟩) (Kd.R_far (p := ⟨gbCG, 2, none⟩) (Kd.R_far (p := ⟨gbCG, 1, none⟩) (Kd.R_far (p := ⟨gbCG, 0, none⟩) (Kd.R_types HOCE.out BKCG.out (by decide)) (fun _ hk => hk.2) (.int .i64 tCz)) (fun _ hk => hk.2) (.int .i64 tCA)) (fun _ hk => hk.2) (.int .i64 tCB)) (fun _ hk => hk.2) (.slice Ao150 tCC.length co150)) (fun _ h_ => h_.1)))); (case side2 => exact (Kd.R_reads' HOCE.out).2.1); (case side3 => refine (Kd.R_reads' (e := 27) (base := w.heap.size) (ok := fun k_ => (some k_ ≠ (vCv : Value).ownBlock ∧ (some k_ ≠ (.slice Ao150 tCC.length co150 : Value).ownBlock ∧ (some k_ ≠ (.slice Ao42 tCm.length co42 : Value).ownBlock ∧ some k_ ≠ (.slice Ao52 tC8.length co52 : Value).ownBlock)))) (n := tBR.length) (c := co32) ?_).2.2; exact (by (with_reducible repeat (first | apply Kd.R_alloc | apply Kd.R_drewN | apply Kd.R_drew)); exact (Kd.R_mono (Kd.R_far (p := ⟨gbCG, 3, none⟩) (Kd.R_far (p := ⟨gbCG, 2, none⟩) (Kd.R_far (p := ⟨gbCG, 1, none⟩) (Kd.R_far (p := ⟨gbCG, 0, none⟩) (Kd.R_types HO_BW003.out BKCG.out (by decide)) (fun _ hk => hk.2) (.int .i64 tCz)) (fun _ hk => hk.2) (.int .i64 tCA)) (fun _ hk => hk.2) (.int .i64 tCB)) (fun _ hk => hk.2) (.slice Ao150 tCC.length co150)) (fun _ h_ => h_.1)))); (case side4 => exact (Kd.R_reads' HO_BW003.out).2.1); rintro e w177 ⟨rfl, hb⟩; refine ⟨_, rfl, ?_⟩; have n0_ := Aside0.mk (Kd.R_below (by (with_reducible repeat (first | apply Kd.R_alloc | apply Kd.R_drewN | apply Kd.R_drew)); exact (Kd.R_mono (Kd.R_far (p := ⟨gbCG, 3, none⟩) (Kd.R_far (p := ⟨gbCG, 2, none⟩) (Kd.R_far (p := ⟨gbCG, 1, none⟩) (Kd.R_far (p := ⟨gbCG, 0, none⟩) (Kd.R_types HO_BW003.out BKCG.out (by decide)) (fun _ hk => hk.2) (.int .i64 tCz)) (fun _ hk => hk.2) (.int .i64 tCA)) (fun _ hk => hk.2) (.int .i64 tCB)) (fun _ hk => hk.2) (.slice Ao150 tCC.length co150)) (fun _ h_ => h_.1))) hb); have n1_ := Aside0.mk (Kd.R_below (by (with_reducible repeat (first | apply Kd.R_alloc | apply Kd.R_drewN | apply Kd.R_drew)); exact (Kd.R_mono (Kd.R_far (p := ⟨gbCG, 3, none⟩) (Kd.R_far (p := ⟨gbCG, 2, none⟩) (Kd.R_far (p := ⟨gbCG, 1, none⟩) (Kd.R_far (p := ⟨gbCG, 0, none⟩) (Kd.R_types HO_C3003.out BKCG.out (by decide)) (fun _ hk => hk.2) (.int .i64 tCz)) (fun _ hk => hk.2) (.int .i64 tCA)) (fun _ hk => hk.2) (.int .i64 tCB)) (fun _ hk => hk.2) (.slice Ao150 tCC.length co150)) (fun _ h_ => h_.1))) hb); have n2_ := Aside0.mk (Kd.R_below (by (with_reducible repeat (first | apply Kd.R_alloc | apply Kd.R_drewN | apply Kd.R_drew)); exact (Kd.R_mono (Kd.R_far (p := ⟨gbCG, 3, none⟩) (Kd.R_far (p := ⟨gbCG, 2, none⟩) (Kd.R_far (p := ⟨gbCG, 1, none⟩) (Kd.R_far (p := ⟨gbCG, 0, none⟩) (Kd.R_types HO_Cd003.out BKCG.out (by decide)) (fun _ hk => hk.2) (.int .i64 tCz)) (fun _ hk => hk.2) (.int .i64 tCA)) (fun _ hk => hk.2) (.int .i64 tCB)) (fun _ hk => hk.2) (.slice Ao150 tCC.length co150)) (fun _ h_ => h_.1))) hb); have n3_ := Aside0.mk (Kd.R_below (by (with_reducible repeat (first | apply Kd.R_alloc | apply Kd.R_drewN | apply Kd.R_drew)); exact (Kd.R_mono (Kd.R_far (p := ⟨gbCG, 3, none⟩) (Kd.R_far (p := ⟨gbCG, 2, none⟩) (Kd.R_far (p := ⟨gbCG, 1, none⟩) (Kd.R_far (p := ⟨gbCG, 0, none⟩) (Kd.R_types HOCw.out BKCG.out (by decide)) (fun _ hk => hk.2) (.int .i64 tCz)) (fun _ hk => hk.2) (.int .i64 tCA)) (fun _ hk => hk.2) (.int .i64 tCB)) (fun _ hk => hk.2) (.slice Ao150 tCC.length co150)) (fun _ h_ => h_.1))) hb); have n4_ := Aside0.mk (Kd.R_below (by (with_reducible repeat (first | apply Kd.R_alloc | apply Kd.R_drewN | apply Kd.R_drew)); exact (Kd.R_mono (Kd.R_far (p := ⟨gbCG, 3, none⟩) (Kd.R_far (p := ⟨gbCG, 2, none⟩) (Kd.R_far (p := ⟨gbCG, 1, none⟩) (Kd.R_far (p := ⟨gbCG, 0, none⟩) (Kd.R_types HOCE.out BKCG.out (by decide)) (fun _ hk => hk.2) (.int .i64 tCz)) (fun _ hk => hk.2) (.int .i64 tCA)) (fun _ hk => hk.2) (.int .i64 tCB)) (fun _ hk => hk.2) (.slice Ao150 tCC.length co150)) (fun _ h_ => h_.1))) hb); have n5_ := Aside0.mk (blk_below (g := gbBD) (o := .cells #[.int .i64 a0_0, .int .i64 a0_1, .int .i64 a0_2, .slice A0_3 l0_3.length c0_3] 24 (0, 0)) (by (with_reducible repeat (first | refine blk_drewN ?_ _ | refine blk_drew ?_ | refine blk_alloc ?_ _)); refine blk_farU ?_ NBBD_CG.out _; refine blk_farU ?_ NBBD_CG.out _; refine blk_farU ?_ NBBD_CG.out _; refine blk_farU ?_ NBBD_CG.out _; exact BKBD.out) hb); have n6_ := Aside0.mk (blk_below (g := gbBE) (o := .cells #[.int .i64 a1_0, .int .i64 a1_1] 82 (0, 0)) (by (with_reducible repeat (first | refine blk_drewN ?_ _ | refine blk_drew ?_ | refine blk_alloc ?_ _)); refine blk_farU ?_ NBBE_CG.out _; refine blk_farU ?_ NBBE_CG.out _; refine blk_farU ?_ NBBE_CG.out _; refine blk_farU ?_ NBBE_CG.out _; exact BKBE.out) hb); have n7_ := Aside0.mk (blk_below (g := gbBV) (o := .cells #[.int .i64 tBO, .int .i64 tBP, .int .i64 tBQ, .slice Ao32 tBR.length co32] 32 (0, 0)) (by (with_reducible repeat (first | refine blk_drewN ?_ _ | refine blk_drew ?_ | refine blk_alloc ?_ _)); refine blk_farU ?_ NBBV_CG.out _; refine blk_farU ?_ NBBV_CG.out _; refine blk_farU ?_ NBBV_CG.out _; refine blk_farU ?_ NBBV_CG.out _; exact BKBV.out) hb); have n8_ := Aside0.mk (blk_below (g := gbC2) (o := .cells #[.int .i64 tBW, .int .i64 tBX, .int .i64 tBY, .slice Ao42 tCm.length co42] 32 (0, 0)) (by (with_reducible repeat (first | refine blk_drewN ?_ _ | refine blk_drew ?_ | refine blk_alloc ?_ _)); refine blk_farU ?_ NBC2_CG.out _; refine blk_farU ?_ NBC2_CG.out _; refine blk_farU ?_ NBC2_CG.out _; refine blk_farU ?_ NBC2_CG.out _; exact BKC2.out) hb); have n9_ := Aside0.mk (blk_below (g := gbCc) (o := .cells #[.int .i64 tC5, .int .i64 tC6, .int .i64 tC7, .slice Ao52 tC8.length co52] 32 (0, 0)) (by (with_reducible repeat (first | refine blk_drewN ?_ _ | refine blk_drew ?_ | refine blk_alloc ?_ _)); refine blk_farU ?_ NBCc_CG.out _; refine blk_farU ?_ NBCc_CG.out _; refine blk_farU ?_ NBCc_CG.out _; refine blk_farU ?_ NBCc_CG.out _; exact BKCc.out) hb); have n10_ := Aside0.mk (blk_below (g := gbCG) (o := .cells #[.int .i64 tCz, .int .i64 tCA, .int .i64 tCB, .slice Ao150 tCC.length co150] 32 (0, 0)) (by (with_reducible repeat (first | refine blk_drewN ?_ _ | refine blk_drew ?_ | refine blk_alloc ?_ _)); refine blk_put (cs := #[.int .i64 tCz, .int .i64 tCA, .int .i64 tCB, .slice none 0 0]) ?_ 3 _ rfl; refine blk_put (cs := #[.int .i64 tCz, .int .i64 tCA, .int .i64 0, .slice none 0 0]) ?_ 2 _ rfl; refine blk_put (cs := #[.int .i64 tCz, .int .i64 0, .int .i64 0, .slice none 0 0]) ?_ 1 _ rfl; refine blk_putU (cs := #[.int .i64 0, .int .i64 0, .int .i64 0, .slice none 0 0]) ?_ 0 _ rfl; exact BKCG.out) hb); have n11_ := Aside0.mk (below_step belS hb); clear HO_BW003 HO_C3003 HO_Cd003 HOCw HOCE BKBD BKBE BKBV BKC2 BKCc BKCG HB; revert n0_ n1_ n2_ n3_ n4_ n5_ n6_ n7_ n8_ n9_ n10_ n11_; intro HO_BW003 HO_C3003 HO_Cd003 HOCw HOCE BKBD BKBE BKBV BKC2 BKCc BKCG HB; (try clear hb); (try clear hk)))
             go_meet
             case rel => exact ⟨_, (true), (by first | rfl | (simp; done) | (simp [*]; done)), H', ⟨by have := HJ15.out; have := HJ80.out; first | omega | exact Nat.le_refl _⟩, ⟨by (try simp only [hlC3003_80]); (with_reducible repeat (first | apply Kd.R_alloc | apply Kd.R_drewN | apply Kd.R_drew)); exact Kd.R_mono HO_BW003.out (fun _ hk => ⟨hk.2.2.1, ⟨hk.2.2.2, hk.2.1⟩⟩)⟩, ⟨by (try simp only [hlC3003_80]); (with_reducible repeat (first | apply Kd.R_alloc | apply Kd.R_drewN | apply Kd.R_drew)); exact Kd.R_mono HO_C3003.out (fun _ hk => ⟨hk.2.2.1, ⟨hk.2.2.2, hk.2.1⟩⟩)⟩, ⟨by (try simp only [hlC3003_80]); (with_reducible repeat (first | apply Kd.R_alloc | apply Kd.R_drewN | apply Kd.R_drew)); exact Kd.R_mono HO_Cd003.out (fun _ hk => ⟨hk.2.2.1, ⟨hk.2.2.2, hk.2.1⟩⟩)⟩, ⟨by (try simp only [hlC3003_80]); (with_reducible repeat (first | apply Kd.R_alloc | apply Kd.R_drewN | apply Kd.R_drew)); exact Kd.R_mono HOCE.out (fun _ hk => ⟨hk.2.1, ⟨hk.2.2.1, hk.2.2.2⟩⟩)⟩, ⟨by (try simp only [hlC3003_80]); (with_reducible repeat (first | refine blk_drewN ?_ _ | refine blk_drew ?_ | refine blk_alloc ?_ _)); exact BKBD.out⟩, ⟨by (try simp only [hlC3003_80]); (with_reducible repeat (first | refine blk_drewN ?_ _ | refine blk_drew ?_ | refine blk_alloc ?_ _)); exact BKBE.out⟩, ⟨by (try simp only [hlC3003_80]); (with_reducible repeat (first | refine blk_drewN ?_ _ | refine blk_drew ?_ | refine blk_alloc ?_ _)); exact BKBV.out⟩, ⟨by (try simp only [hlC3003_80]); (with_reducible repeat (first | refine blk_drewN ?_ _ | refine blk_drew ?_ | refine blk_alloc ?_ _)); exact BKC2.out⟩, ⟨by (try simp only [hlC3003_80]); (with_reducible repeat (first | refine blk_drewN ?_ _ | refine blk_drew ?_ | refine blk_alloc ?_ _)); exact BKCc.out⟩, ⟨by (try simp only [hlC3003_80]); (with_reducible repeat (first | refine blk_drewN ?_ _ | refine blk_drew ?_ | refine blk_alloc ?_ _)); exact BKCG.out⟩, ⟨by exact belS⟩⟩
           case rest =>
            clear HC131
            try clear c1
            try clear p2
            try clear c3
            try clear c4
            try clear c10
            try clear c15
            try clear c16
            try clear c17
            try clear c39
            try clear c42
            try clear c106
            try clear c107
            try clear c153
            try clear c154
            try clear c155
            try clear c156
            try clear c157
            try clear c158
            try clear c160
            try clear c161
            try clear c162
            try clear c163
            try clear c166
            try clear c167
            try clear c168
            try clear c169
            try clear c170
            try clear c172
            try clear c173
            try clear c174
            try clear c175
            try clear hcz159_0 hcz159_1 hcz159_2 hcz159_3
            try clear hcz164_0 hcz164_1 hcz164_2 hcz164_3
            try clear hcz171_0 hcz171_1 hcz171_2 hcz171_3
            try clear hcz176_0 hcz176_1 hcz176_2 hcz176_3
            try clear hfz159_0 hfz159_1 hfz159_2 hfz159_3
            try clear hfz164_0 hfz164_1 hfz164_2 hfz164_3
            try clear hfz171_0 hfz171_1 hfz171_2 hfz171_3
            try clear hfz176_0 hfz176_1 hfz176_2 hfz176_3
            obtain ⟨kq, x95_130, rfl, HA, HJ130, HO_BW003, HO_C3003, HO_Cd003, HO_CH003, BKBD, BKBE, BKBV, BKC2, BKCc, BKCG, HB⟩ := hcut
            have hlCd003_130 := (Kd.R_reads' HO_Cd003.out).1
            rw [hlCd003_130] at HO_Cd003
            (try simp only [hlCd003_130])
            (try simp only [hlCd003_130] at BKBD)
            (try simp only [hlCd003_130] at BKBE)
            (try simp only [hlCd003_130] at BKBV)
            (try simp only [hlCd003_130] at BKC2)
            (try simp only [hlCd003_130] at BKCc)
            (try simp only [hlCd003_130] at BKCG)
            (try simp only [hlCd003_130] at HO_BW003)
            (try simp only [hlCd003_130] at HO_C3003)
            (try simp only [hlCd003_130] at HO_CH003)
            cases kq with
            | zero => exact absurd HA.out (by simp [laws_FnExactAddJump.j2])
            | succ kj130 =>
             have H := HA.out
             clear HA
             simp only [laws_FnExactAddJump.j2] at H
             by_cases c178 : x95_130 = true
             ·subst c178
              have H1 : (some false) = some r := by rw [if_pos rfl] at H; exact H
              clear H
              have H := H1
              clear H1
              obtain rfl := Option.some.inj H
              go_wp2
              go_ret
              exact ⟨by first | rfl | (simp [errW_none, errW_some] <;> rfl) | (simp [*, errW_none, errW_some] <;> rfl), by exact belS⟩
             ·replace c178 := Bool.eq_false_iff.mpr c178
              subst c178
              have H1 : ((laws_heldBoard.f kj130 tC5 tC6 tC7 tCp 1).bind fun tCI => (if tCI < 0 then (some false) else (if tCI = tCo then (some true) else (some false)))) = some r := by rw [if_neg (show ¬ (false = true) by decide)] at H; exact H
              clear H
              have H := H1
              clear H1
              replace H := Option.bind_eq_some_iff.mp H
              obtain ⟨tCI, A1790, H⟩ := H
              replace H : (if tCI < 0 then (some false) else (if tCI = tCo then (some true) else (some false))) = some r := H
              have A179 := Aside0.mk A1790
              clear A1790
              by_cases c180 : tCI < 0
              ·rw [if_pos c180] at H
               have c180b0 : decide (tCI < 0) = true := decide_eq_true c180
               clear c180
               obtain rfl := Option.some.inj H
               have hnb181 := NBCc_BD.out
               have hnc181 := NBBD_Cc.out
               have hnb182 := NBCc_BE.out
               have hnc182 := NBBE_Cc.out
               have hnb183 := NBCc_BV.out
               have hnc183 := NBBV_Cc.out
               have hnb184 := NBCc_C2.out
               have hnc184 := NBC2_Cc.out
               have hnb185 := NBCc_CG.out
               have hnc185 := NBCG_Cc.out
               obtain ⟨hcz186_0, hcz186_1, hcz186_2, hcz186_3, hfz186_0, hfz186_1, hfz186_2, hfz186_3⟩ := blk4 BKCc.out
               go_wp2_with (first | ((with_reducible refine gate_callee (f := 48) rfl ?_); refine goesL_ (some 98) rfl rfl Try.func48 (by kernel_rfl) rfl #[.agg #[.int .i64 tC5, .int .i64 tC6, .int .i64 tC7, .slice Ao52 tCp.length co52], .int .i64 1] rfl argS ?_; (with_reducible refine (laws_heldBoard.calls kj130 tC5 tC6 tC7 _ _ tCp 1 tCI _ ?side1 ?side2 A179.out).mono ?_); (case side1 => exact Kd.C_up (Kd.R_reads' HO_Cd003.out).2.2); (case side2 => exact (Kd.R_reads' HO_Cd003.out).2.1); rintro e w187 ⟨rfl, hb⟩; refine ⟨_, rfl, ?_⟩; have n0_ := Aside0.mk (Kd.R_below (Kd.R_up HO_BW003.out) hb); have n1_ := Aside0.mk (Kd.R_below (Kd.R_up HO_C3003.out) hb); have n2_ := Aside0.mk (Kd.R_below (Kd.R_up HO_Cd003.out) hb); have n3_ := Aside0.mk (Kd.R_below (Kd.R_up HO_CH003.out) hb); have n4_ := Aside0.mk (blk_below (blk_up BKBD.out) hb); have n5_ := Aside0.mk (blk_below (blk_up BKBE.out) hb); have n6_ := Aside0.mk (blk_below (blk_up BKBV.out) hb); have n7_ := Aside0.mk (blk_below (blk_up BKC2.out) hb); have n8_ := Aside0.mk (blk_below (blk_up BKCc.out) hb); have n9_ := Aside0.mk (blk_below (blk_up BKCG.out) hb); have n10_ := Aside0.mk (below_step belS hb); clear HO_BW003 HO_C3003 HO_Cd003 HO_CH003 BKBD BKBE BKBV BKC2 BKCc BKCG HB; revert n0_ n1_ n2_ n3_ n4_ n5_ n6_ n7_ n8_ n9_ n10_; intro HO_BW003 HO_C3003 HO_Cd003 HO_CH003 BKBD BKBE BKBV BKC2 BKCc BKCG HB; (try clear hb)))
               go_ret
               exact ⟨by first | rfl | (simp [errW_none, errW_some] <;> rfl) | (simp [*, errW_none, errW_some] <;> rfl), by exact belS⟩
              ·rw [if_neg c180] at H
               have c180b0 : decide (tCI < 0) = false := decide_eq_false c180
               clear c180
               by_cases c188 : tCI = tCo
               ·rw [if_pos c188] at H
                have c188b0 : (tCI == tCo) = true := beq_iff_eq.mpr c188
                have c188b1 : (tCI != tCo) = false := bne_eq_false_iff_eq.mpr c188
                clear c188
                obtain rfl := Option.some.inj H
                have hnb189 := NBCc_BD.out
                have hnc189 := NBBD_Cc.out
                have hnb190 := NBCc_BE.out
                have hnc190 := NBBE_Cc.out
                have hnb191 := NBCc_BV.out
                have hnc191 := NBBV_Cc.out
                have hnb192 := NBCc_C2.out
                have hnc192 := NBC2_Cc.out
                have hnb193 := NBCc_CG.out
                have hnc193 := NBCG_Cc.out
                obtain ⟨hcz194_0, hcz194_1, hcz194_2, hcz194_3, hfz194_0, hfz194_1, hfz194_2, hfz194_3⟩ := blk4 BKCc.out
                go_wp2_with (first | ((with_reducible refine gate_callee (f := 48) rfl ?_); refine goesL_ (some 98) rfl rfl Try.func48 (by kernel_rfl) rfl #[.agg #[.int .i64 tC5, .int .i64 tC6, .int .i64 tC7, .slice Ao52 tCp.length co52], .int .i64 1] rfl argS ?_; (with_reducible refine (laws_heldBoard.calls kj130 tC5 tC6 tC7 _ _ tCp 1 tCI _ ?side1 ?side2 A179.out).mono ?_); (case side1 => exact Kd.C_up (Kd.R_reads' HO_Cd003.out).2.2); (case side2 => exact (Kd.R_reads' HO_Cd003.out).2.1); rintro e w195 ⟨rfl, hb⟩; refine ⟨_, rfl, ?_⟩; have n0_ := Aside0.mk (Kd.R_below (Kd.R_up HO_BW003.out) hb); have n1_ := Aside0.mk (Kd.R_below (Kd.R_up HO_C3003.out) hb); have n2_ := Aside0.mk (Kd.R_below (Kd.R_up HO_Cd003.out) hb); have n3_ := Aside0.mk (Kd.R_below (Kd.R_up HO_CH003.out) hb); have n4_ := Aside0.mk (blk_below (blk_up BKBD.out) hb); have n5_ := Aside0.mk (blk_below (blk_up BKBE.out) hb); have n6_ := Aside0.mk (blk_below (blk_up BKBV.out) hb); have n7_ := Aside0.mk (blk_below (blk_up BKC2.out) hb); have n8_ := Aside0.mk (blk_below (blk_up BKCc.out) hb); have n9_ := Aside0.mk (blk_below (blk_up BKCG.out) hb); have n10_ := Aside0.mk (below_step belS hb); clear HO_BW003 HO_C3003 HO_Cd003 HO_CH003 BKBD BKBE BKBV BKC2 BKCc BKCG HB; revert n0_ n1_ n2_ n3_ n4_ n5_ n6_ n7_ n8_ n9_ n10_; intro HO_BW003 HO_C3003 HO_Cd003 HO_CH003 BKBD BKBE BKBV BKC2 BKCc BKCG HB; (try clear hb)))
                go_ret
                exact ⟨by first | rfl | (simp [errW_none, errW_some] <;> rfl) | (simp [*, errW_none, errW_some] <;> rfl), by exact belS⟩
               ·rw [if_neg c188] at H
                have c188b0 : (tCI == tCo) = false := beq_eq_false_iff_ne.mpr c188
                have c188b1 : (tCI != tCo) = true := bne_iff_ne.mpr c188
                obtain rfl := Option.some.inj H
                have hnb196 := NBCc_BD.out
                have hnc196 := NBBD_Cc.out
                have hnb197 := NBCc_BE.out
                have hnc197 := NBBE_Cc.out
                have hnb198 := NBCc_BV.out
                have hnc198 := NBBV_Cc.out
                have hnb199 := NBCc_C2.out
                have hnc199 := NBC2_Cc.out
                have hnb200 := NBCc_CG.out
                have hnc200 := NBCG_Cc.out
                obtain ⟨hcz201_0, hcz201_1, hcz201_2, hcz201_3, hfz201_0, hfz201_1, hfz201_2, hfz201_3⟩ := blk4 BKCc.out
                go_wp2_with (first | ((with_reducible refine gate_callee (f := 48) rfl ?_); refine goesL_ (some 98) rfl rfl Try.func48 (by kernel_rfl) rfl #[.agg #[.int .i64 tC5, .int .i64 tC6, .int .i64 tC7, .slice Ao52 tCp.length co52], .int .i64 1] rfl argS ?_; (with_reducible refine (laws_heldBoard.calls kj130 tC5 tC6 tC7 _ _ tCp 1 tCI _ ?side1 ?side2 A179.out).mono ?_); (case side1 => exact Kd.C_up (Kd.R_reads' HO_Cd003.out).2.2); (case side2 => exact (Kd.R_reads' HO_Cd003.out).2.1); rintro e w202 ⟨rfl, hb⟩; refine ⟨_, rfl, ?_⟩; have n0_ := Aside0.mk (Kd.R_below (Kd.R_up HO_BW003.out) hb); have n1_ := Aside0.mk (Kd.R_below (Kd.R_up HO_C3003.out) hb); have n2_ := Aside0.mk (Kd.R_below (Kd.R_up HO_Cd003.out) hb); have n3_ := Aside0.mk (Kd.R_below (Kd.R_up HO_CH003.out) hb); have n4_ := Aside0.mk (blk_below (blk_up BKBD.out) hb); have n5_ := Aside0.mk (blk_below (blk_up BKBE.out) hb); have n6_ := Aside0.mk (blk_below (blk_up BKBV.out) hb); have n7_ := Aside0.mk (blk_below (blk_up BKC2.out) hb); have n8_ := Aside0.mk (blk_below (blk_up BKCc.out) hb); have n9_ := Aside0.mk (blk_below (blk_up BKCG.out) hb); have n10_ := Aside0.mk (below_step belS hb); clear HO_BW003 HO_C3003 HO_Cd003 HO_CH003 BKBD BKBE BKBV BKC2 BKCc BKCG HB; revert n0_ n1_ n2_ n3_ n4_ n5_ n6_ n7_ n8_ n9_ n10_; intro HO_BW003 HO_C3003 HO_Cd003 HO_CH003 BKBD BKBE BKBV BKC2 BKCc BKCG HB; (try clear hb)))
                go_ret
                exact ⟨by first | rfl | (simp [errW_none, errW_some] <;> rfl) | (simp [*, errW_none, errW_some] <;> rfl), by exact belS⟩
          ·rw [if_neg c127] at H
           have c127b0 : (tCq == tCo) = false := beq_eq_false_iff_ne.mpr c127
           have c127b1 : (tCq != tCo) = true := bne_iff_ne.mpr c127
           obtain rfl := Option.some.inj H
           have hnb203 := NBCc_BD.out
           have hnc203 := NBBD_Cc.out
           have hnb204 := NBCc_BE.out
           have hnc204 := NBBE_Cc.out
           have hnb205 := NBCc_BV.out
           have hnc205 := NBBV_Cc.out
           have hnb206 := NBCc_C2.out
           have hnc206 := NBC2_Cc.out
           obtain ⟨hcz207_0, hcz207_1, hcz207_2, hcz207_3, hfz207_0, hfz207_1, hfz207_2, hfz207_3⟩ := blk4 BKCc.out
           go_wp2_with (first | ((with_reducible refine gate_callee (f := 47) rfl ?_); refine goesL_ (some 70) rfl rfl Try.func47 (by kernel_rfl) rfl #[.agg #[.int .i64 tC5, .int .i64 tC6, .int .i64 tC7, .slice Ao52 tC8.length co52], .int .i64 1] rfl argS ?_; (with_reducible refine (laws_markBoard.calls kj80 tC5 tC6 tC7 (fun k_ => some k_ = (.slice Ao52 tC8.length co52 : Value).ownBlock) (.slice Ao52 tC8.length co52) tC8 1 tCo tCp w _ ?side1 ?side2 A116.out).mono ?_); (case side1 => exact belS); (case side2 => exact Kd.R_tight rfl HO_Cd003.out); rintro e w208 ⟨rfl, hy0, hb, hkp⟩; refine ⟨_, rfl, ?_⟩; have n0_ := Aside0.mk (Kd.R_mono (ok' := fun k_ => some k_ ≠ (.slice Ao42 tCm.length co42 : Value).ownBlock ∧ some k_ ≠ (.slice Ao52 tC8.length co52 : Value).ownBlock) (Kd.R_keptB (HO_BW003.out) hkp (fun k_ hk_ hs_ => (hk_.2) hs_)) (fun k_ hk_ => ⟨hk_.1.1, hk_.1.2⟩)); have n1_ := Aside0.mk (Kd.R_mono (ok' := fun k_ => some k_ ≠ (.slice Ao32 tBR.length co32 : Value).ownBlock ∧ some k_ ≠ (.slice Ao52 tC8.length co52 : Value).ownBlock) (Kd.R_keptB (HO_C3003.out) hkp (fun k_ hk_ hs_ => (hk_.2) hs_)) (fun k_ hk_ => ⟨hk_.1.1, hk_.1.2⟩)); have n2_ := Aside0.mk (Kd.R_reok rfl hy0 (fun k_ e_ => HO_Cd003.out.1 k_ e_)); have n3_ := Aside0.mk (blk_kept (blk_up BKBD.out) hkp (fun hs_ => (fun e_ => (Kd.R_ne HO_Cd003.out BKBD.out (by decide)) e_) hs_)); have n4_ := Aside0.mk (blk_kept (blk_up BKBE.out) hkp (fun hs_ => (fun e_ => (Kd.R_ne HO_Cd003.out BKBE.out (by decide)) e_) hs_)); have n5_ := Aside0.mk (blk_kept (blk_up BKBV.out) hkp (fun hs_ => (fun e_ => (Kd.R_ne HO_Cd003.out BKBV.out (by decide)) e_) hs_)); have n6_ := Aside0.mk (blk_kept (blk_up BKC2.out) hkp (fun hs_ => (fun e_ => (Kd.R_ne HO_Cd003.out BKC2.out (by decide)) e_) hs_)); have n7_ := Aside0.mk (blk_kept (blk_up BKCc.out) hkp (fun hs_ => (fun e_ => (Kd.R_ne HO_Cd003.out BKCc.out (by decide)) e_) hs_)); have n8_ := Aside0.mk (hb); clear HO_BW003 HO_C3003 HO_Cd003 BKBD BKBE BKBV BKC2 BKCc HB; revert n0_ n1_ n2_ n3_ n4_ n5_ n6_ n7_ n8_; intro HO_BW003 HO_C3003 HO_Cd003 BKBD BKBE BKBV BKC2 BKCc HB; (try clear hb); (try clear hkp); (try clear hy0); obtain ⟨hcz209_0, hcz209_1, hcz209_2, hcz209_3, hfz209_0, hfz209_1, hfz209_2, hfz209_3⟩ := blk4 BKCc.out) | ((with_reducible refine gate_callee (f := 48) rfl ?_); refine goesL_ (some 73) rfl rfl Try.func48 (by kernel_rfl) rfl #[.agg #[.int .i64 tC5, .int .i64 tC6, .int .i64 tC7, .slice Ao52 tCp.length co52], .int .i64 1] rfl (by (try simp only [List.map_toArray, List.map_cons, List.map_nil]); first | done | (rw [show tCp.length = tC8.length from (Kd.R_reads' HO_Cd003.out).1.symm] <;> rfl) | rfl | (simp only [List.length_drop, List.length_take]; rfl)) ?_; (with_reducible refine (laws_heldBoard.calls kj80 tC5 tC6 tC7 _ _ tCp 1 tCq _ ?side1 ?side2 A117.out).mono ?_); (case side1 => exact Kd.C_up (Kd.R_reads' HO_Cd003.out).2.2); (case side2 => rw [show tCp.length = tC8.length from (Kd.R_reads' HO_Cd003.out).1.symm]; exact (Kd.R_reads' HO_Cd003.out).2.1); rintro e w210 ⟨rfl, hb⟩; refine ⟨_, rfl, ?_⟩; have n0_ := Aside0.mk (Kd.R_below (Kd.R_up HO_BW003.out) hb); have n1_ := Aside0.mk (Kd.R_below (Kd.R_up HO_C3003.out) hb); have n2_ := Aside0.mk (Kd.R_below (Kd.R_up HO_Cd003.out) hb); have n3_ := Aside0.mk (blk_below (blk_up BKBD.out) hb); have n4_ := Aside0.mk (blk_below (blk_up BKBE.out) hb); have n5_ := Aside0.mk (blk_below (blk_up BKBV.out) hb); have n6_ := Aside0.mk (blk_below (blk_up BKC2.out) hb); have n7_ := Aside0.mk (blk_below (blk_up BKCc.out) hb); have n8_ := Aside0.mk (below_step belS hb); clear HO_BW003 HO_C3003 HO_Cd003 BKBD BKBE BKBV BKC2 BKCc HB; revert n0_ n1_ n2_ n3_ n4_ n5_ n6_ n7_ n8_; intro HO_BW003 HO_C3003 HO_Cd003 BKBD BKBE BKBV BKC2 BKCc HB; (try clear hb)))
           go_ret
           exact ⟨by first | rfl | (simp [errW_none, errW_some] <;> rfl) | (simp [*, errW_none, errW_some] <;> rfl), by exact belS⟩
     ·replace c79 := Bool.eq_false_iff.mpr c79
      subst c79
      have H1 : (some false) = some r := by rw [if_neg (show ¬ (false = true) by decide)] at H; exact H
      clear H
      have H := H1
      clear H1
      obtain rfl := Option.some.inj H
      try go_wp2
      have n0_ := Aside0.mk (Kd.R_drew HO_BW003.out)
      have n1_ := Aside0.mk (Kd.R_drew HO_C3003.out)
      have n2_ := Aside0.mk (Kd.R_drew HO_Cd003.out)
      have n3_ := Aside0.mk (blk_drew BKBD.out)
      have n4_ := Aside0.mk (blk_drew BKBE.out)
      have n5_ := Aside0.mk (blk_drew BKBV.out)
      have n6_ := Aside0.mk (blk_drew BKC2.out)
      have n7_ := Aside0.mk (blk_drew BKCc.out)
      have n8_ := Aside0.mk (below_drew1 HB.out)
      clear HO_BW003
      clear HO_C3003
      clear HO_Cd003
      clear BKBD
      clear BKBE
      clear BKBV
      clear BKC2
      clear BKCc
      clear HB
      have HO_BW003 := n0_
      have HO_C3003 := n1_
      have HO_Cd003 := n2_
      have BKBD := n3_
      have BKBE := n4_
      have BKBV := n5_
      have BKC2 := n6_
      have BKCc := n7_
      have HB := n8_
      clear n0_ n1_ n2_ n3_ n4_ n5_ n6_ n7_ n8_
      refine start_ (n := 5) (S := fun w' => w'.cell? ⟨gbC2, 0, none⟩ = some (.int .i64 tBW) ∧ w'.cell? ⟨gbC2, 1, none⟩ = some (.int .i64 tBX) ∧ w'.cell? ⟨gbC2, 2, none⟩ = some (.int .i64 tBY) ∧ w'.cell? ⟨gbC2, 3, none⟩ = some (.slice Ao42 tBZ.length co42) ∧ w'.cell? ⟨gbBD, 0, none⟩ = some (.int .i64 a0_0) ∧ w'.cell? ⟨gbBD, 1, none⟩ = some (.int .i64 a0_1) ∧ w'.cell? ⟨gbBD, 2, none⟩ = some (.int .i64 a0_2) ∧ w'.cell? ⟨gbBD, 3, none⟩ = some (.slice A0_3 l0_3.length c0_3)) (ds := []) #[false, false, false, false, false] (by kernel_rfl) rfl rfl ⟨(blk_cell BKC2.out 0).trans rfl, (blk_cell BKC2.out 1).trans rfl, (blk_cell BKC2.out 2).trans rfl, (blk_cell BKC2.out 3).trans rfl, (blk_cell BKBD.out 0).trans rfl, (blk_cell BKBD.out 1).trans rfl, (blk_cell BKBD.out 2).trans rfl, (blk_cell BKBD.out 3).trans rfl⟩ (fun hHeld => ?_)
      generalize wc.drew = w211 at HO_BW003 HO_C3003 HO_Cd003 BKBD BKBE BKBV BKC2 BKCc HB hHeld ⊢
      refine take_ (i := 0) (N := some 47) (v := ?_) (a' := ?_) #[true, false, false, false, false] rfl rfl (by kernel_rfl) (fun _ _ _ h => h) (Or.inl ⟨by rfl, ?_⟩) hHeld ?_ ?_
      rotate_left
      ·rintro w' ⟨s0, s1, s2, s3, s4, s5, s6, s7⟩
       go_simp
       with_reducible rfl
      rotate_left
      ·simp only [Act.put, sA_, sB_, sC_, i64_w, i32_w]
       rfl
      refine take_ (i := 1) (N := some 48) (v := ?_) (a' := ?_) #[true, true, false, false, false] rfl rfl (by kernel_rfl) (fun _ _ _ h => h) (Or.inl ⟨by rfl, ?_⟩) hHeld ?_ ?_
      rotate_left
      ·rintro w' ⟨s0, s1, s2, s3, s4, s5, s6, s7⟩
       go_simp
       with_reducible rfl
      rotate_left
      ·simp only [Act.put, sA_, sB_, sC_, i64_w, i32_w]
       rfl
      refine one_ (i := 2) (N := some 49) #[true, true, true, false, false] rfl rfl (by kernel_rfl) (by decide) (fun K hK => ?_)
      refine goes_ Try.func39 (by kernel_rfl) rfl #[.agg #[.int .i64 a0_0, .int .i64 a0_1, .int .i64 a0_2, .slice A0_3 l0_3.length c0_3]] (by rfl) rfl rfl argS ?_
      with_reducible refine (laws_toBoard.calls kj15 a0_0 a0_1 a0_2 _ _ l0_3 tCe tCf tCg tCh _ ?side1 ?side2 A77.out).mono ?_
      (case side1 => exact Kd.C_up (Kd.C_below HR0_3.out HB.out))
      (case side2 => exact HC0_3.out)
      rintro e w212 ⟨vCi, rfl, ho0, hb⟩
      refine ⟨_, rfl, ?_⟩
      have n0_ := Aside0.mk (Kd.R_elder' (Kd.R_up HO_BW003.out) (Kd.R_base ho0) hb)
      have n1_ := Aside0.mk (Kd.R_elder' (Kd.R_up HO_C3003.out) (Kd.R_base ho0) hb)
      have n2_ := Aside0.mk (Kd.R_elder' (Kd.R_up HO_Cd003.out) (Kd.R_base ho0) hb)
      have n3_ := Aside0.mk (Kd.R_lower (Kd.R_new' (Kd.R_new' (Kd.R_new' ho0 (Kd.R_lt (Kd.R_up HO_BW003.out))) (Kd.R_lt (Kd.R_up HO_C3003.out))) (Kd.R_lt (Kd.R_up HO_Cd003.out))) (below_size belS))
      have n4_ := Aside0.mk (blk_below (blk_up BKBD.out) hb)
      have n5_ := Aside0.mk (blk_below (blk_up BKBE.out) hb)
      have n6_ := Aside0.mk (blk_below (blk_up BKBV.out) hb)
      have n7_ := Aside0.mk (blk_below (blk_up BKC2.out) hb)
      have n8_ := Aside0.mk (blk_below (blk_up BKCc.out) hb)
      have n9_ := Aside0.mk (below_step belS hb)
      clear HO_BW003
      clear HO_C3003
      clear HO_Cd003
      clear BKBD
      clear BKBE
      clear BKBV
      clear BKC2
      clear BKCc
      clear HB
      have HO_BW003 := n0_
      have HO_C3003 := n1_
      have HO_Cd003 := n2_
      have HOCj := n3_
      have BKBD := n4_
      have BKBE := n5_
      have BKBV := n6_
      have BKC2 := n7_
      have BKCc := n8_
      have HB := n9_
      clear n0_ n1_ n2_ n3_ n4_ n5_ n6_ n7_ n8_ n9_
      (try clear hb)
      (try clear hb2)
      (try clear hk)
      (try clear hi)
      (try clear ho0)
      obtain ⟨Ao213, co213, eo213⟩ := Kd.R_slice HOCj.out
      (first | subst eo213 | (injection eo213 with f1_ f2_ f3_; have f4_ := f1_.symm; have f5_ := f3_.symm; clear f1_ f2_ f3_; subst f4_; subst f5_))
      refine hK.out _ _ ⟨(blk_cell BKC2.out 0).trans rfl, (blk_cell BKC2.out 1).trans rfl, (blk_cell BKC2.out 2).trans rfl, (blk_cell BKC2.out 3).trans rfl, (blk_cell BKBD.out 0).trans rfl, (blk_cell BKBD.out 1).trans rfl, (blk_cell BKBD.out 2).trans rfl, (blk_cell BKBD.out 3).trans rfl⟩ (fun hHeld => ?_)
      clear hK K
      refine norm_ (a' := ?_) ?_ ?_
      rotate_left
      ·show Act.put _ (some 49) _ = _
       simp only [Act.put, sA_, sB_, sC_, i64_w, i32_w]
       rfl
      refine one_ (i := 3) (N := some 50) #[true, true, true, true, false] rfl rfl (by kernel_rfl) (by decide) (fun K hK => ?_)
      refine goes_ Try.func42 (by kernel_rfl) rfl #[.agg #[.int .i64 tBW, .int .i64 tBX, .int .i64 tBY, .slice Ao42 tBZ.length co42], .agg #[.int .i64 tCe, .int .i64 tCf, .int .i64 tCg, .slice Ao213 tCh.length co213]] (by rfl) rfl rfl argS ?_
      with_reducible refine (laws_eqBoard.calls kj15 tBW tBX tBY _ _ tBZ tCe tCf tCg _ _ tCh false _ ?side1 ?side2 ?side3 ?side4 A78.out).mono ?_
      (case side1 => exact Kd.C_up (Kd.R_reads' HO_C3003.out).2.2)
      (case side2 => exact (Kd.R_reads' HO_C3003.out).2.1)
      (case side3 => exact Kd.C_up (Kd.R_reads' HOCj.out).2.2)
      (case side4 => exact (Kd.R_reads' HOCj.out).2.1)
      rintro e w214 ⟨rfl, hb⟩
      refine ⟨_, rfl, ?_⟩
      have n0_ := Aside0.mk (Kd.R_below (Kd.R_up HO_BW003.out) hb)
      have n1_ := Aside0.mk (Kd.R_below (Kd.R_up HO_C3003.out) hb)
      have n2_ := Aside0.mk (Kd.R_below (Kd.R_up HO_Cd003.out) hb)
      have n3_ := Aside0.mk (Kd.R_below (Kd.R_up HOCj.out) hb)
      have n4_ := Aside0.mk (blk_below (blk_up BKBD.out) hb)
      have n5_ := Aside0.mk (blk_below (blk_up BKBE.out) hb)
      have n6_ := Aside0.mk (blk_below (blk_up BKBV.out) hb)
      have n7_ := Aside0.mk (blk_below (blk_up BKC2.out) hb)
      have n8_ := Aside0.mk (blk_below (blk_up BKCc.out) hb)
      have n9_ := Aside0.mk (below_step belS hb)
      clear HO_BW003
      clear HO_C3003
      clear HO_Cd003
      clear HOCj
      clear BKBD
      clear BKBE
      clear BKBV
      clear BKC2
      clear BKCc
      clear HB
      have HO_BW003 := n0_
      have HO_C3003 := n1_
      have HO_Cd003 := n2_
      have HOCj := n3_
      have BKBD := n4_
      have BKBE := n5_
      have BKBV := n6_
      have BKC2 := n7_
      have BKCc := n8_
      have HB := n9_
      clear n0_ n1_ n2_ n3_ n4_ n5_ n6_ n7_ n8_ n9_
      (try clear hb)
      (try clear hb2)
      (try clear hk)
      (try clear hi)
      refine hK.out _ _ ⟨(blk_cell BKC2.out 0).trans rfl, (blk_cell BKC2.out 1).trans rfl, (blk_cell BKC2.out 2).trans rfl, (blk_cell BKC2.out 3).trans rfl, (blk_cell BKBD.out 0).trans rfl, (blk_cell BKBD.out 1).trans rfl, (blk_cell BKBD.out 2).trans rfl, (blk_cell BKBD.out 3).trans rfl⟩ (fun hHeld => ?_)
      clear hK K
      refine norm_ (a' := ?_) ?_ ?_
      rotate_left
      ·show Act.put _ (some 50) _ = _
       simp only [Act.put, sA_, sB_, sC_, i64_w, i32_w]
       rfl
      refine pure_ (i := 4) (N := some 51) (v := ?_) (a' := ?_) #[true, true, true, true, true] rfl rfl (by kernel_rfl) (fun _ _ _ h => h) (Or.inl ⟨by rfl, ?_⟩) ?_ ?_
      rotate_left
      ·intro w'
       go_simp
       with_reducible rfl
      rotate_left
      ·simp only [Act.put, sA_, sB_, sC_, i64_w, i32_w]
       rfl
      refine done_ (by kernel_rfl) ?_
      try go_wp2
      go_ret
      exact ⟨by first | rfl | (simp [errW_none, errW_some] <;> rfl) | (simp [*, errW_none, errW_some] <;> rfl), by exact belS⟩

end Go.Proofs.Ytkobjjadojpjfaa.Pr
