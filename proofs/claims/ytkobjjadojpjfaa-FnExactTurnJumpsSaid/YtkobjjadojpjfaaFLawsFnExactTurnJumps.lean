-- A text of the machine side, written by wip/gen.py of this repo out of the translation. Not trusted: Lean checks it.
import Derived.Test.YtkobjjadojpjfaaF0
import Derived.Test.YtkobjjadojpjfaaFGA
import Derived.Test.YtkobjjadojpjfaaFGH
import Derived.Test.YtkobjjadojpjfaaFGM
import Derived.Test.YtkobjjadojpjfaaFImplTurnJumps
import Derived.Test.YtkobjjadojpjfaaFSpecTurnJumps
namespace Go.Proofs.Ytkobjjadojpjfaa.Pr
open Go.RowKit Go.Proofs.YtkobjjadojpjfaaW.PrintWords Go.Proofs.YtkobjjadojpjfaaW.PrintLast Go.Proofs.YtkobjjadojpjfaaW.PrintMore
attribute [local go_sem] max2_int min2_int max_two min_two max_three min_three max_four min_four   -- for this text's walks alone
set_option linter.unusedVariables false
set_option linter.unusedSimpArgs false

/-! ### laws_FnExactTurnJumps: function 27 -/
mutual
def laws_FnExactTurnJumps.j0 : Nat → Bool → Bool → Bool → Int → Int → Int → List (S82) → Int → Int → Int → List (S27) → Int → Int → Int → List (S27) → Int → Int → Int → List (S27) → Option (Bool)
 | 0, _, _, _, _, _, _, _, _, _, _, _, _, _, _, _, _, _, _, _ => none
 | k + 1, x5, x8, x40, xBE000, xBE001, xBE002, xBE003, xBT000, xBT001, xBT002, xBT003, xC0000, xC0001, xC0002, xC0003, xC8000, xC8001, xC8002, xC8003 => if x40 = true then (some false) else ((laws_toBoard.f k xBE000 xBE001 xBE002 xBE003).bind fun btC9 => ((laws_eqBoard.f k xC0000 xC0001 xC0002 xC0003 btC9.1 btC9.2.1 btC9.2.2.1 btC9.2.2.2).bind fun tCf => (if tCf = true then ((laws_markBoard.f k xC0000 xC0001 xC0002 xC0003 1).bind fun btCg => (if btCg.1 < 0 then (laws_FnExactTurnJumps.j1 k x5 true xBE000 xBE001 xBE002 xBE003 xBT000 xBT001 xBT002 xBT003 xC8000 xC8001 xC8002 xC8003) else ((laws_eqBoard.f k xC8000 xC8001 xC8002 xC8003 xBT000 xBT001 xBT002 xBT003).bind fun tCi => (if tCi = true then (laws_FnExactTurnJumps.j1 k x5 (x8 != x5) xBE000 xBE001 xBE002 xBE003 xBT000 xBT001 xBT002 xBT003 xC8000 xC8001 xC8002 xC8003) else (laws_FnExactTurnJumps.j1 k x5 true xBE000 xBE001 xBE002 xBE003 xBT000 xBT001 xBT002 xBT003 xC8000 xC8001 xC8002 xC8003))))) else (some false))))
def laws_FnExactTurnJumps.j1 : Nat → Bool → Bool → Int → Int → Int → List (S82) → Int → Int → Int → List (S27) → Int → Int → Int → List (S27) → Option (Bool)
 | 0, _, _, _, _, _, _, _, _, _, _, _, _, _, _ => none
 | k + 1, x5, x61, xBE000, xBE001, xBE002, xBE003, xBT000, xBT001, xBT002, xBT003, xC8000, xC8001, xC8002, xC8003 => if x61 = true then (some false) else ((laws_markBoard.f k xC8000 xC8001 xC8002 xC8003 1).bind fun btCj => ((laws_heldBoard.f k xC8000 xC8001 xC8002 btCj.2 1).bind fun tCl => (if tCl < 0 then (some false) else (if tCl = btCj.1 then ((laws_toBoard.f k xBE000 xBE001 xBE002 xBE003).bind fun btCm => ((impl_TurnJumps.f k btCm.1 btCm.2.1 btCm.2.2.1 btCm.2.2.2).bind fun btCs => ((laws_eqBoard.f k btCs.1 btCs.2.1 btCs.2.2.1 btCs.2.2.2.1 xBT000 xBT001 xBT002 xBT003).bind fun tCA => (if tCA = true then (laws_FnExactTurnJumps.j2 k btCj.1 (btCs.2.2.2.2 != x5) xC8000 xC8001 xC8002 btCj.2) else (laws_FnExactTurnJumps.j2 k btCj.1 true xC8000 xC8001 xC8002 btCj.2))))) else (some false)))))
def laws_FnExactTurnJumps.j2 : Nat → Int → Bool → Int → Int → Int → List (S27) → Option (Bool)
 | 0, _, _, _, _, _, _ => none
 | k + 1, x10, x87, xC8000, xC8001, xC8002, xC8003 => if x87 = true then (some false) else ((laws_heldBoard.f k xC8000 xC8001 xC8002 xC8003 1).bind fun tCB => (if tCB < 0 then (some false) else (if tCB = x10 then (some true) else (some false))))
end
def laws_FnExactTurnJumps.f (k : Nat) (a0_0 : Int) (a0_1 : Int) (a0_2 : Int) (l0_3 : List (S82)) : Option (Bool) := (laws_szBoard.f a0_0 a0_1 a0_2 l0_3 1048576).bind fun tBE => (if tBE < 0 then (some true) else ((laws_toBoard.f k a0_0 a0_1 a0_2 l0_3).bind fun btBF => ((spec_TurnJumps.f k btBF.1 btBF.2.1 btBF.2.2.1 btBF.2.2.2).bind fun btBL => ((laws_toBoard.f k a0_0 a0_1 a0_2 l0_3).bind fun btBT => ((impl_TurnJumps.f k btBT.1 btBT.2.1 btBT.2.2.1 btBT.2.2.2).bind fun btC0 => ((laws_eqBoard.f k btC0.1 btC0.2.1 btC0.2.2.1 btC0.2.2.2.1 btBL.1 btBL.2.1 btBL.2.2.1 btBL.2.2.2.1).bind fun tC8 => (if tC8 = true then (laws_FnExactTurnJumps.j0 k btBL.2.2.2.2 btC0.2.2.2.2 (btC0.2.2.2.2 != btBL.2.2.2.2) a0_0 a0_1 a0_2 l0_3 btBL.1 btBL.2.1 btBL.2.2.1 btBL.2.2.2.1 btBT.1 btBT.2.1 btBT.2.2.1 btBT.2.2.2 btC0.1 btC0.2.1 btC0.2.2.1 btC0.2.2.2.1) else (laws_FnExactTurnJumps.j0 k btBL.2.2.2.2 btC0.2.2.2.2 true a0_0 a0_1 a0_2 l0_3 btBL.1 btBL.2.1 btBL.2.2.1 btBL.2.2.2.1 btBT.1 btBT.2.1 btBT.2.2.1 btBT.2.2.2 btC0.1 btC0.2.1 btC0.2.2.1 btC0.2.2.2.1))))))))
set_option maxHeartbeats 8000000 in
set_option maxRecDepth 100000 in
theorem laws_FnExactTurnJumps.calls (k : Nat) (a0_0 : Int) (a0_1 : Int) (a0_2 : Int) (A0_3 : Option Addr) (c0_3 : Nat) (l0_3 : List (S82)) (r : Bool) (w : World) (hr0_3 : Kd.C k82 w A0_3 l0_3.length l0_3) (hc0_3 : l0_3.length ≤ c0_3) (h : laws_FnExactTurnJumps.f k a0_0 a0_1 a0_2 l0_3 = some r) :
  Calls Try.prog 27 #[.agg #[.int .i64 a0_0, .int .i64 a0_1, .int .i64 a0_2, .slice A0_3 l0_3.length c0_3]] w fun e w' => e = .returned (.bool r) ∧ Below w.heap.size w w' := by
 have hu24 := Try.underlying24
 have hu32 := Try.underlying32
 have HR0_3 := Aside0.mk hr0_3
 have HC0_3 := Aside0.mk hc0_3
 clear hr0_3 hc0_3
 have HB := Aside0.mk (Below.refl w.heap.size w)
 have H : ((laws_szBoard.f a0_0 a0_1 a0_2 l0_3 1048576).bind fun tBE => (if tBE < 0 then (some true) else ((laws_toBoard.f k a0_0 a0_1 a0_2 l0_3).bind fun btBF => ((spec_TurnJumps.f k btBF.1 btBF.2.1 btBF.2.2.1 btBF.2.2.2).bind fun btBL => ((laws_toBoard.f k a0_0 a0_1 a0_2 l0_3).bind fun btBT => ((impl_TurnJumps.f k btBT.1 btBT.2.1 btBT.2.2.1 btBT.2.2.2).bind fun btC0 => ((laws_eqBoard.f k btC0.1 btC0.2.1 btC0.2.2.1 btC0.2.2.2.1 btBL.1 btBL.2.1 btBL.2.2.1 btBL.2.2.2.1).bind fun tC8 => (if tC8 = true then (laws_FnExactTurnJumps.j0 k btBL.2.2.2.2 btC0.2.2.2.2 (btC0.2.2.2.2 != btBL.2.2.2.2) a0_0 a0_1 a0_2 l0_3 btBL.1 btBL.2.1 btBL.2.2.1 btBL.2.2.2.1 btBT.1 btBT.2.1 btBT.2.2.1 btBT.2.2.2 btC0.1 btC0.2.1 btC0.2.2.1 btC0.2.2.2.1) else (laws_FnExactTurnJumps.j0 k btBL.2.2.2.2 btC0.2.2.2.2 true a0_0 a0_1 a0_2 l0_3 btBL.1 btBL.2.1 btBL.2.2.1 btBL.2.2.2.1 btBT.1 btBT.2.1 btBT.2.2.1 btBT.2.2.2 btC0.1 btC0.2.1 btC0.2.2.1 btC0.2.2.2.1))))))))) = some r := h
 clear h
 replace H := Option.bind_eq_some_iff.mp H
 obtain ⟨tBE, A20, H⟩ := H
 replace H : (if tBE < 0 then (some true) else ((laws_toBoard.f k a0_0 a0_1 a0_2 l0_3).bind fun btBF => ((spec_TurnJumps.f k btBF.1 btBF.2.1 btBF.2.2.1 btBF.2.2.2).bind fun btBL => ((laws_toBoard.f k a0_0 a0_1 a0_2 l0_3).bind fun btBT => ((impl_TurnJumps.f k btBT.1 btBT.2.1 btBT.2.2.1 btBT.2.2.2).bind fun btC0 => ((laws_eqBoard.f k btC0.1 btC0.2.1 btC0.2.2.1 btC0.2.2.2.1 btBL.1 btBL.2.1 btBL.2.2.1 btBL.2.2.2.1).bind fun tC8 => (if tC8 = true then (laws_FnExactTurnJumps.j0 k btBL.2.2.2.2 btC0.2.2.2.2 (btC0.2.2.2.2 != btBL.2.2.2.2) a0_0 a0_1 a0_2 l0_3 btBL.1 btBL.2.1 btBL.2.2.1 btBL.2.2.2.1 btBT.1 btBT.2.1 btBT.2.2.1 btBT.2.2.2 btC0.1 btC0.2.1 btC0.2.2.1 btC0.2.2.2.1) else (laws_FnExactTurnJumps.j0 k btBL.2.2.2.2 btC0.2.2.2.2 true a0_0 a0_1 a0_2 l0_3 btBL.1 btBL.2.1 btBL.2.2.1 btBL.2.2.2.1 btBT.1 btBT.2.1 btBT.2.2.1 btBT.2.2.2 btC0.1 btC0.2.1 btC0.2.2.1 btC0.2.2.2.1)))))))) = some r := H
 have A2 := Aside0.mk A20
 clear A20
 by_cases c3 : tBE < 0
 ·rw [if_pos c3] at H
  have c3b0 : decide (tBE < 0) = true := decide_eq_true c3
  clear c3
  obtain rfl := Option.some.inj H
  go_enter Try.func27, Try.ntmps27
  go_wp2_with (first | ((with_reducible refine gate_dst (N := 1) rfl ?_); refine box_event ?hg (N := 1) ?hd (cs := #[.int .i64 a0_0, .int .i64 a0_1, .int .i64 a0_2, .slice A0_3 l0_3.length c0_3]) (t := 24) ?hr ?_; (case hd => rfl); (case hg => rfl); (case hr => first | (go_simp; done) | (go_simp; rfl)); intro gbBD hg w4 hbox hb; have n0_ := Aside0.mk (below_step belS hb); have n1_ := Aside0.mk (hbox); have n2_ := Aside0.mk ((by rw [hg]; exact (below_size belS) : w.heap.size ≤ gbBD)); have n3_ := n2_; clear HB; have HB := n0_; have BKBD := n1_; have GWBD := n2_; have GEBD := n3_; clear n0_ n1_ n2_ n3_; clear hb hbox hg; obtain ⟨hcz5_0, hcz5_1, hcz5_2, hcz5_3, hfz5_0, hfz5_1, hfz5_2, hfz5_3⟩ := blk4 BKBD.out) | ((with_reducible refine gate_callee (f := 37) rfl ?_); refine goesL_ (some 16) rfl rfl Try.func37 (by kernel_rfl) rfl #[.agg #[.int .i64 a0_0, .int .i64 a0_1, .int .i64 a0_2, .slice A0_3 l0_3.length c0_3], .int .i64 1048576] rfl argS ?_; (with_reducible refine (laws_szBoard.calls a0_0 a0_1 a0_2 _ _ l0_3 1048576 tBE _ ?side1 ?side2 A2.out).mono ?_); (case side1 => exact Kd.C_up (Kd.C_below HR0_3.out HB.out)); (case side2 => exact HC0_3.out); rintro e w6 ⟨rfl, hb⟩; refine ⟨_, rfl, ?_⟩; have n0_ := Aside0.mk (blk_below (blk_up BKBD.out) hb); have n1_ := Aside0.mk (below_step belS hb); clear BKBD; clear HB; have BKBD := n0_; have HB := n1_; clear n0_ n1_; (try clear hb); (try clear hb2); (try clear hk); (try clear hi)))
  go_ret
  exact ⟨by first | rfl | (simp [errW_none, errW_some] <;> rfl) | (simp [*, errW_none, errW_some] <;> rfl), by exact belS⟩
 ·rw [if_neg c3] at H
  have c3b0 : decide (tBE < 0) = false := decide_eq_false c3
  clear c3
  replace H := Option.bind_eq_some_iff.mp H
  obtain ⟨⟨tBF, tBG, tBH, tBI⟩, A70, H⟩ := H
  replace H : ((spec_TurnJumps.f k tBF tBG tBH tBI).bind fun btBL => ((laws_toBoard.f k a0_0 a0_1 a0_2 l0_3).bind fun btBT => ((impl_TurnJumps.f k btBT.1 btBT.2.1 btBT.2.2.1 btBT.2.2.2).bind fun btC0 => ((laws_eqBoard.f k btC0.1 btC0.2.1 btC0.2.2.1 btC0.2.2.2.1 btBL.1 btBL.2.1 btBL.2.2.1 btBL.2.2.2.1).bind fun tC8 => (if tC8 = true then (laws_FnExactTurnJumps.j0 k btBL.2.2.2.2 btC0.2.2.2.2 (btC0.2.2.2.2 != btBL.2.2.2.2) a0_0 a0_1 a0_2 l0_3 btBL.1 btBL.2.1 btBL.2.2.1 btBL.2.2.2.1 btBT.1 btBT.2.1 btBT.2.2.1 btBT.2.2.2 btC0.1 btC0.2.1 btC0.2.2.1 btC0.2.2.2.1) else (laws_FnExactTurnJumps.j0 k btBL.2.2.2.2 btC0.2.2.2.2 true a0_0 a0_1 a0_2 l0_3 btBL.1 btBL.2.1 btBL.2.2.1 btBL.2.2.2.1 btBT.1 btBT.2.1 btBT.2.2.1 btBT.2.2.2 btC0.1 btC0.2.1 btC0.2.2.1 btC0.2.2.2.1)))))) = some r := H
  have A7 := Aside0.mk A70
  clear A70
  replace H := Option.bind_eq_some_iff.mp H
  obtain ⟨⟨tBL, tBM, tBN, tBO, tBR⟩, A80, H⟩ := H
  replace H : ((laws_toBoard.f k a0_0 a0_1 a0_2 l0_3).bind fun btBT => ((impl_TurnJumps.f k btBT.1 btBT.2.1 btBT.2.2.1 btBT.2.2.2).bind fun btC0 => ((laws_eqBoard.f k btC0.1 btC0.2.1 btC0.2.2.1 btC0.2.2.2.1 tBL tBM tBN tBO).bind fun tC8 => (if tC8 = true then (laws_FnExactTurnJumps.j0 k tBR btC0.2.2.2.2 (btC0.2.2.2.2 != tBR) a0_0 a0_1 a0_2 l0_3 tBL tBM tBN tBO btBT.1 btBT.2.1 btBT.2.2.1 btBT.2.2.2 btC0.1 btC0.2.1 btC0.2.2.1 btC0.2.2.2.1) else (laws_FnExactTurnJumps.j0 k tBR btC0.2.2.2.2 true a0_0 a0_1 a0_2 l0_3 tBL tBM tBN tBO btBT.1 btBT.2.1 btBT.2.2.1 btBT.2.2.2 btC0.1 btC0.2.1 btC0.2.2.1 btC0.2.2.2.1))))) = some r := H
  have A8 := Aside0.mk A80
  clear A80
  replace H := Option.bind_eq_some_iff.mp H
  obtain ⟨⟨tBT, tBU, tBV, tBW⟩, A90, H⟩ := H
  replace H : ((impl_TurnJumps.f k tBT tBU tBV tBW).bind fun btC0 => ((laws_eqBoard.f k btC0.1 btC0.2.1 btC0.2.2.1 btC0.2.2.2.1 tBL tBM tBN tBO).bind fun tC8 => (if tC8 = true then (laws_FnExactTurnJumps.j0 k tBR btC0.2.2.2.2 (btC0.2.2.2.2 != tBR) a0_0 a0_1 a0_2 l0_3 tBL tBM tBN tBO tBT tBU tBV tBW btC0.1 btC0.2.1 btC0.2.2.1 btC0.2.2.2.1) else (laws_FnExactTurnJumps.j0 k tBR btC0.2.2.2.2 true a0_0 a0_1 a0_2 l0_3 tBL tBM tBN tBO tBT tBU tBV tBW btC0.1 btC0.2.1 btC0.2.2.1 btC0.2.2.2.1)))) = some r := H
  have A9 := Aside0.mk A90
  clear A90
  replace H := Option.bind_eq_some_iff.mp H
  obtain ⟨⟨tC0, tC1, tC2, tC3, tC6⟩, A100, H⟩ := H
  replace H : ((laws_eqBoard.f k tC0 tC1 tC2 tC3 tBL tBM tBN tBO).bind fun tC8 => (if tC8 = true then (laws_FnExactTurnJumps.j0 k tBR tC6 (tC6 != tBR) a0_0 a0_1 a0_2 l0_3 tBL tBM tBN tBO tBT tBU tBV tBW tC0 tC1 tC2 tC3) else (laws_FnExactTurnJumps.j0 k tBR tC6 true a0_0 a0_1 a0_2 l0_3 tBL tBM tBN tBO tBT tBU tBV tBW tC0 tC1 tC2 tC3))) = some r := H
  have A10 := Aside0.mk A100
  clear A100
  have HC11 := Aside0.mk H
  clear H
  go_enter Try.func27, Try.ntmps27
  go_upto_region 8 with (first | ((with_reducible refine gate_dst (N := 1) rfl ?_); refine box_event ?hg (N := 1) ?hd (cs := #[.int .i64 a0_0, .int .i64 a0_1, .int .i64 a0_2, .slice A0_3 l0_3.length c0_3]) (t := 24) ?hr ?_; (case hd => rfl); (case hg => rfl); (case hr => first | (go_simp; done) | (go_simp; rfl)); intro gbBD hg w12 hbox hb; have n0_ := Aside0.mk (below_step belS hb); have n1_ := Aside0.mk (hbox); have n2_ := Aside0.mk ((by rw [hg]; exact (below_size belS) : w.heap.size ≤ gbBD)); have n3_ := n2_; clear HB; have HB := n0_; have BKBD := n1_; have GWBD := n2_; have GEBD := n3_; clear n0_ n1_ n2_ n3_; clear hb hbox hg; obtain ⟨hcz13_0, hcz13_1, hcz13_2, hcz13_3, hfz13_0, hfz13_1, hfz13_2, hfz13_3⟩ := blk4 BKBD.out) | ((with_reducible refine gate_callee (f := 37) rfl ?_); refine goesL_ (some 16) rfl rfl Try.func37 (by kernel_rfl) rfl #[.agg #[.int .i64 a0_0, .int .i64 a0_1, .int .i64 a0_2, .slice A0_3 l0_3.length c0_3], .int .i64 1048576] rfl argS ?_; (with_reducible refine (laws_szBoard.calls a0_0 a0_1 a0_2 _ _ l0_3 1048576 tBE _ ?side1 ?side2 A2.out).mono ?_); (case side1 => exact Kd.C_up (Kd.C_below HR0_3.out HB.out)); (case side2 => exact HC0_3.out); rintro e w14 ⟨rfl, hb⟩; refine ⟨_, rfl, ?_⟩; have n0_ := Aside0.mk (blk_below (blk_up BKBD.out) hb); have n1_ := Aside0.mk (below_step belS hb); clear BKBD; clear HB; have BKBD := n0_; have HB := n1_; clear n0_ n1_; (try clear hb); (try clear hb2); (try clear hk); (try clear hi); obtain ⟨hcz15_0, hcz15_1, hcz15_2, hcz15_3, hfz15_0, hfz15_1, hfz15_2, hfz15_3⟩ := blk4 BKBD.out) | ((with_reducible refine gate_callee (f := 39) rfl ?_); refine goesL_ (some 21) rfl rfl Try.func39 (by kernel_rfl) rfl #[.agg #[.int .i64 a0_0, .int .i64 a0_1, .int .i64 a0_2, .slice A0_3 l0_3.length c0_3]] rfl argS ?_; (with_reducible refine (laws_toBoard.calls k a0_0 a0_1 a0_2 _ _ l0_3 tBF tBG tBH tBI _ ?side1 ?side2 A7.out).mono ?_); (case side1 => exact Kd.C_up (Kd.C_below HR0_3.out HB.out)); (case side2 => exact HC0_3.out); rintro e w16 ⟨vBJ, rfl, ho0, hb⟩; refine ⟨_, rfl, ?_⟩; have n0_ := Aside0.mk (Kd.R_lower ho0 (below_size belS)); have n1_ := Aside0.mk (blk_below (blk_up BKBD.out) hb); have n2_ := Aside0.mk (below_step belS hb); clear BKBD; clear HB; have HOBK := n0_; have BKBD := n1_; have HB := n2_; clear n0_ n1_ n2_; (try clear hb); (try clear hb2); (try clear hk); (try clear hi); (try clear ho0); obtain ⟨Ao17, co17, eo17⟩ := Kd.R_slice HOBK.out; subst eo17) | ((with_reducible refine gate_callee (f := 103) rfl ?_); refine goesL_ (some 22) rfl rfl Try.func103 (by kernel_rfl) rfl #[.agg #[.int .i64 tBF, .int .i64 tBG, .int .i64 tBH, .slice Ao17 tBI.length co17]] rfl argS ?_; (with_reducible refine (spec_TurnJumps.calls k tBF tBG tBH _ _ tBI tBL tBM tBN tBO tBR _ ?side1 ?side2 A8.out).mono ?_); (case side1 => exact Kd.C_up (Kd.R_reads' HOBK.out).2.2); (case side2 => exact (Kd.R_reads' HOBK.out).2.1); rintro e w18 ⟨vBP, rfl, ho0, hb⟩; refine ⟨_, rfl, ?_⟩; have n0_ := Aside0.mk (Kd.R_elder' (Kd.R_up HOBK.out) (Kd.R_base ho0) hb); have n1_ := Aside0.mk (Kd.R_lower (Kd.R_new' ho0 (Kd.R_lt (Kd.R_up HOBK.out))) (below_size belS)); have n2_ := Aside0.mk (blk_below (blk_up BKBD.out) hb); have n3_ := Aside0.mk (below_step belS hb); clear HOBK; clear BKBD; clear HB; have HOBK := n0_; have HOBQ := n1_; have BKBD := n2_; have HB := n3_; clear n0_ n1_ n2_ n3_; (try clear hb); (try clear hb2); (try clear hk); (try clear hi); (try clear ho0)) | ((with_reducible refine gate_dst (N := 4) rfl ?_); refine box_event ?hg (N := 4) ?hd (cs := #[.int .i64 0, .int .i64 0, .int .i64 0, .slice none 0 0]) (t := 32) ?hr ?_; (case hd => rfl); (case hg => rfl); (case hr => first | (go_simp; done) | (go_simp; rfl)); intro gbBS hg w19 hbox hb; have n0_ := Aside0.mk (Kd.R_below (Kd.R_up HOBK.out) hb); have n1_ := Aside0.mk (Kd.R_below (Kd.R_up HOBQ.out) hb); have n2_ := Aside0.mk (blk_below (blk_up BKBD.out) hb); have n3_ := Aside0.mk (below_step belS hb); have n4_ := Aside0.mk (hbox); have n5_ := Aside0.mk ((by rw [hg]; exact (below_size belS) : w.heap.size ≤ gbBS)); have n6_ := n5_; have n7_ := Aside0.mk ((by rw [hg]; exact Nat.ne_of_lt (blk_lt (blk_up BKBD.out)) : gbBD ≠ gbBS)); have n8_ := Aside0.mk ((by rw [hg]; exact Nat.ne_of_gt (blk_lt (blk_up BKBD.out)) : gbBS ≠ gbBD)); clear HOBK; clear HOBQ; clear BKBD; clear HB; have HOBK := n0_; have HOBQ := n1_; have BKBD := n2_; have HB := n3_; have BKBS := n4_; have GWBS := n5_; have GEBS := n6_; have NBBD_BS := n7_; have NBBS_BD := n8_; clear n0_ n1_ n2_ n3_ n4_ n5_ n6_ n7_ n8_; clear hb hbox hg; have hnb20 := NBBS_BD.out; have hnc20 := NBBD_BS.out; obtain ⟨hcz21_0, hcz21_1, hcz21_2, hcz21_3, hfz21_0, hfz21_1, hfz21_2, hfz21_3⟩ := blk4 BKBS.out; obtain ⟨Ao22, co22, eo22⟩ := Kd.R_slice HOBQ.out; subst eo22; obtain ⟨hcz23_0, hcz23_1, hcz23_2, hcz23_3, hfz23_0, hfz23_1, hfz23_2, hfz23_3⟩ := blk4 BKBD.out) | ((with_reducible refine gate_callee (f := 39) rfl ?_); refine goesL_ (some 26) rfl rfl Try.func39 (by kernel_rfl) rfl #[.agg #[.int .i64 a0_0, .int .i64 a0_1, .int .i64 a0_2, .slice A0_3 l0_3.length c0_3]] rfl argS ?_; (with_reducible refine (laws_toBoard.calls k a0_0 a0_1 a0_2 _ _ l0_3 tBT tBU tBV tBW _ ?side1 ?side2 A9.out).mono ?_); (case side1 => exact Kd.C_below HR0_3.out belS); (case side2 => exact HC0_3.out); rintro e w24 ⟨vBX, rfl, ho0, hb⟩; refine ⟨_, rfl, ?_⟩; have n0_ := Aside0.mk (Kd.R_elder' (by (with_reducible repeat (first | apply Kd.R_alloc | apply Kd.R_drewN | apply Kd.R_drew)); exact (Kd.R_mono (Kd.R_far (p := ⟨gbBS, 3, none⟩) (Kd.R_far (p := ⟨gbBS, 2, none⟩) (Kd.R_far (p := ⟨gbBS, 1, none⟩) (Kd.R_far (p := ⟨gbBS, 0, none⟩) (Kd.R_types HOBK.out BKBS.out (by decide)) (fun _ hk => hk.2) (.int .i64 tBL)) (fun _ hk => hk.2) (.int .i64 tBM)) (fun _ hk => hk.2) (.int .i64 tBN)) (fun _ hk => hk.2) (.slice Ao22 tBO.length co22)) (fun _ h_ => h_.1))) (Kd.R_base ho0) hb); have n1_ := Aside0.mk (Kd.R_elder' (by (with_reducible repeat (first | apply Kd.R_alloc | apply Kd.R_drewN | apply Kd.R_drew)); exact (Kd.R_mono (Kd.R_far (p := ⟨gbBS, 3, none⟩) (Kd.R_far (p := ⟨gbBS, 2, none⟩) (Kd.R_far (p := ⟨gbBS, 1, none⟩) (Kd.R_far (p := ⟨gbBS, 0, none⟩) (Kd.R_types HOBQ.out BKBS.out (by decide)) (fun _ hk => hk.2) (.int .i64 tBL)) (fun _ hk => hk.2) (.int .i64 tBM)) (fun _ hk => hk.2) (.int .i64 tBN)) (fun _ hk => hk.2) (.slice Ao22 tBO.length co22)) (fun _ h_ => h_.1))) (Kd.R_base ho0) hb); have n2_ := Aside0.mk (Kd.R_lower (Kd.R_new' (Kd.R_new' ho0 (Kd.R_lt (by (with_reducible repeat (first | apply Kd.R_alloc | apply Kd.R_drewN | apply Kd.R_drew)); exact (Kd.R_mono (Kd.R_far (p := ⟨gbBS, 3, none⟩) (Kd.R_far (p := ⟨gbBS, 2, none⟩) (Kd.R_far (p := ⟨gbBS, 1, none⟩) (Kd.R_far (p := ⟨gbBS, 0, none⟩) (Kd.R_types HOBK.out BKBS.out (by decide)) (fun _ hk => hk.2) (.int .i64 tBL)) (fun _ hk => hk.2) (.int .i64 tBM)) (fun _ hk => hk.2) (.int .i64 tBN)) (fun _ hk => hk.2) (.slice Ao22 tBO.length co22)) (fun _ h_ => h_.1))))) (Kd.R_lt (by (with_reducible repeat (first | apply Kd.R_alloc | apply Kd.R_drewN | apply Kd.R_drew)); exact (Kd.R_mono (Kd.R_far (p := ⟨gbBS, 3, none⟩) (Kd.R_far (p := ⟨gbBS, 2, none⟩) (Kd.R_far (p := ⟨gbBS, 1, none⟩) (Kd.R_far (p := ⟨gbBS, 0, none⟩) (Kd.R_types HOBQ.out BKBS.out (by decide)) (fun _ hk => hk.2) (.int .i64 tBL)) (fun _ hk => hk.2) (.int .i64 tBM)) (fun _ hk => hk.2) (.int .i64 tBN)) (fun _ hk => hk.2) (.slice Ao22 tBO.length co22)) (fun _ h_ => h_.1))))) (below_size belS)); have n3_ := Aside0.mk (blk_below (g := gbBD) (o := .cells #[.int .i64 a0_0, .int .i64 a0_1, .int .i64 a0_2, .slice A0_3 l0_3.length c0_3] 24 (0, 0)) (by (with_reducible repeat (first | refine blk_drewN ?_ _ | refine blk_drew ?_ | refine blk_alloc ?_ _)); refine blk_far ?_ NBBD_BS.out _; (with_reducible repeat (first | refine blk_drewN ?_ _ | refine blk_drew ?_ | refine blk_alloc ?_ _)); refine blk_far ?_ NBBD_BS.out _; (with_reducible repeat (first | refine blk_drewN ?_ _ | refine blk_drew ?_ | refine blk_alloc ?_ _)); refine blk_far ?_ NBBD_BS.out _; (with_reducible repeat (first | refine blk_drewN ?_ _ | refine blk_drew ?_ | refine blk_alloc ?_ _)); refine blk_far ?_ NBBD_BS.out _; (with_reducible repeat (first | refine blk_drewN ?_ _ | refine blk_drew ?_ | refine blk_alloc ?_ _)); exact BKBD.out) hb); have n4_ := Aside0.mk (blk_below (g := gbBS) (o := .cells #[.int .i64 tBL, .int .i64 tBM, .int .i64 tBN, .slice Ao22 tBO.length co22] 32 (0, 0)) (by (with_reducible repeat (first | refine blk_drewN ?_ _ | refine blk_drew ?_ | refine blk_alloc ?_ _)); refine blk_put (cs := #[.int .i64 tBL, .int .i64 tBM, .int .i64 tBN, .slice none 0 0]) ?_ 3 _ rfl; (with_reducible repeat (first | refine blk_drewN ?_ _ | refine blk_drew ?_ | refine blk_alloc ?_ _)); refine blk_put (cs := #[.int .i64 tBL, .int .i64 tBM, .int .i64 0, .slice none 0 0]) ?_ 2 _ rfl; (with_reducible repeat (first | refine blk_drewN ?_ _ | refine blk_drew ?_ | refine blk_alloc ?_ _)); refine blk_put (cs := #[.int .i64 tBL, .int .i64 0, .int .i64 0, .slice none 0 0]) ?_ 1 _ rfl; (with_reducible repeat (first | refine blk_drewN ?_ _ | refine blk_drew ?_ | refine blk_alloc ?_ _)); refine blk_put (cs := #[.int .i64 0, .int .i64 0, .int .i64 0, .slice none 0 0]) ?_ 0 _ rfl; (with_reducible repeat (first | refine blk_drewN ?_ _ | refine blk_drew ?_ | refine blk_alloc ?_ _)); exact BKBS.out) hb); have n5_ := Aside0.mk (below_step belS hb); clear HOBK; clear HOBQ; clear BKBD; clear BKBS; clear HB; have HOBK := n0_; have HOBQ := n1_; have HOBY := n2_; have BKBD := n3_; have BKBS := n4_; have HB := n5_; clear n0_ n1_ n2_ n3_ n4_ n5_; (try clear hb); (try clear hb2); (try clear hk); (try clear hi); (try clear ho0)) | ((with_reducible refine gate_dst (N := 6) rfl ?_); refine box_event ?hg (N := 6) ?hd (cs := #[.int .i64 0, .int .i64 0, .int .i64 0, .slice none 0 0]) (t := 32) ?hr ?_; (case hd => rfl); (case hg => rfl); (case hr => first | (go_simp; done) | (go_simp; rfl)); intro gbBZ hg w25 hbox hb; have n0_ := Aside0.mk (Kd.R_below (Kd.R_up HOBK.out) hb); have n1_ := Aside0.mk (Kd.R_below (Kd.R_up HOBQ.out) hb); have n2_ := Aside0.mk (Kd.R_below (Kd.R_up HOBY.out) hb); have n3_ := Aside0.mk (blk_below (blk_up BKBD.out) hb); have n4_ := Aside0.mk (blk_below (blk_up BKBS.out) hb); have n5_ := Aside0.mk (below_step belS hb); have n6_ := Aside0.mk (hbox); have n7_ := Aside0.mk ((by rw [hg]; exact (below_size belS) : w.heap.size ≤ gbBZ)); have n8_ := n7_; have n9_ := Aside0.mk ((by rw [hg]; exact Nat.ne_of_lt (blk_lt (blk_up BKBD.out)) : gbBD ≠ gbBZ)); have n10_ := Aside0.mk ((by rw [hg]; exact Nat.ne_of_gt (blk_lt (blk_up BKBD.out)) : gbBZ ≠ gbBD)); have n11_ := Aside0.mk ((by rw [hg]; exact Nat.ne_of_lt (blk_lt (blk_up BKBS.out)) : gbBS ≠ gbBZ)); have n12_ := Aside0.mk ((by rw [hg]; exact Nat.ne_of_gt (blk_lt (blk_up BKBS.out)) : gbBZ ≠ gbBS)); clear HOBK; clear HOBQ; clear HOBY; clear BKBD; clear BKBS; clear HB; have HOBK := n0_; have HOBQ := n1_; have HOBY := n2_; have BKBD := n3_; have BKBS := n4_; have HB := n5_; have BKBZ := n6_; have GWBZ := n7_; have GEBZ := n8_; have NBBD_BZ := n9_; have NBBZ_BD := n10_; have NBBS_BZ := n11_; have NBBZ_BS := n12_; clear n0_ n1_ n2_ n3_ n4_ n5_ n6_ n7_ n8_ n9_ n10_ n11_ n12_; clear hb hbox hg; have hnb26 := NBBZ_BD.out; have hnc26 := NBBD_BZ.out; have hnb27 := NBBZ_BS.out; have hnc27 := NBBS_BZ.out; obtain ⟨hcz28_0, hcz28_1, hcz28_2, hcz28_3, hfz28_0, hfz28_1, hfz28_2, hfz28_3⟩ := blk4 BKBZ.out; obtain ⟨Ao29, co29, eo29⟩ := Kd.R_slice HOBY.out; subst eo29) | ((with_reducible refine gate_callee (f := 104) rfl ?_); refine goesL_ (some 29) rfl rfl Try.func104 (by kernel_rfl) rfl #[.agg #[.int .i64 tBT, .int .i64 tBU, .int .i64 tBV, .slice Ao29 tBW.length co29]] rfl argS ?_; (with_reducible refine (impl_TurnJumps.calls k tBT tBU tBV _ _ tBW tC0 tC1 tC2 tC3 tC6 _ ?side1 ?side2 A10.out).mono ?_); (case side1 => refine (Kd.R_reads' (e := 27) (base := w.heap.size) (ok := fun k_ => ((True ∧ some k_ ≠ (.slice Ao17 tBI.length co17 : Value).ownBlock) ∧ some k_ ≠ (.slice Ao22 tBO.length co22 : Value).ownBlock)) (n := tBW.length) (c := co29) ?_).2.2; exact (by (with_reducible repeat (first | apply Kd.R_alloc | apply Kd.R_drewN | apply Kd.R_drew)); exact (Kd.R_mono (Kd.R_far (p := ⟨gbBZ, 3, none⟩) (Kd.R_far (p := ⟨gbBZ, 2, none⟩) (Kd.R_far (p := ⟨gbBZ, 1, none⟩) (Kd.R_far (p := ⟨gbBZ, 0, none⟩) (Kd.R_types HOBY.out BKBZ.out (by decide)) (fun _ hk => hk.2) (.int .i64 tBT)) (fun _ hk => hk.2) (.int .i64 tBU)) (fun _ hk => hk.2) (.int .i64 tBV)) (fun _ hk => hk.2) (.slice Ao29 tBW.length co29)) (fun _ h_ => h_.1)))); (case side2 => exact (Kd.R_reads' HOBY.out).2.1); rintro e w30 ⟨vC4, rfl, ho0, hb⟩; refine ⟨_, rfl, ?_⟩; have n0_ := Aside0.mk (Kd.R_elder' (by (with_reducible repeat (first | apply Kd.R_alloc | apply Kd.R_drewN | apply Kd.R_drew)); exact (Kd.R_mono (Kd.R_far (p := ⟨gbBZ, 3, none⟩) (Kd.R_far (p := ⟨gbBZ, 2, none⟩) (Kd.R_far (p := ⟨gbBZ, 1, none⟩) (Kd.R_far (p := ⟨gbBZ, 0, none⟩) (Kd.R_types HOBK.out BKBZ.out (by decide)) (fun _ hk => hk.2) (.int .i64 tBT)) (fun _ hk => hk.2) (.int .i64 tBU)) (fun _ hk => hk.2) (.int .i64 tBV)) (fun _ hk => hk.2) (.slice Ao29 tBW.length co29)) (fun _ h_ => h_.1))) (Kd.R_base ho0) hb); have n1_ := Aside0.mk (Kd.R_elder' (by (with_reducible repeat (first | apply Kd.R_alloc | apply Kd.R_drewN | apply Kd.R_drew)); exact (Kd.R_mono (Kd.R_far (p := ⟨gbBZ, 3, none⟩) (Kd.R_far (p := ⟨gbBZ, 2, none⟩) (Kd.R_far (p := ⟨gbBZ, 1, none⟩) (Kd.R_far (p := ⟨gbBZ, 0, none⟩) (Kd.R_types HOBQ.out BKBZ.out (by decide)) (fun _ hk => hk.2) (.int .i64 tBT)) (fun _ hk => hk.2) (.int .i64 tBU)) (fun _ hk => hk.2) (.int .i64 tBV)) (fun _ hk => hk.2) (.slice Ao29 tBW.length co29)) (fun _ h_ => h_.1))) (Kd.R_base ho0) hb); have n2_ := Aside0.mk (Kd.R_elder' (by (with_reducible repeat (first | apply Kd.R_alloc | apply Kd.R_drewN | apply Kd.R_drew)); exact (Kd.R_mono (Kd.R_far (p := ⟨gbBZ, 3, none⟩) (Kd.R_far (p := ⟨gbBZ, 2, none⟩) (Kd.R_far (p := ⟨gbBZ, 1, none⟩) (Kd.R_far (p := ⟨gbBZ, 0, none⟩) (Kd.R_types HOBY.out BKBZ.out (by decide)) (fun _ hk => hk.2) (.int .i64 tBT)) (fun _ hk => hk.2) (.int .i64 tBU)) (fun _ hk => hk.2) (.int .i64 tBV)) (fun _ hk => hk.2) (.slice Ao29 tBW.length co29)) (fun _ h_ => h_.1))) (Kd.R_base ho0) hb); have n3_ := Aside0.mk (Kd.R_lower (Kd.R_new' (Kd.R_new' (Kd.R_new' ho0 (Kd.R_lt (by (with_reducible repeat (first | apply Kd.R_alloc | apply Kd.R_drewN | apply Kd.R_drew)); exact (Kd.R_mono (Kd.R_far (p := ⟨gbBZ, 3, none⟩) (Kd.R_far (p := ⟨gbBZ, 2, none⟩) (Kd.R_far (p := ⟨gbBZ, 1, none⟩) (Kd.R_far (p := ⟨gbBZ, 0, none⟩) (Kd.R_types HOBK.out BKBZ.out (by decide)) (fun _ hk => hk.2) (.int .i64 tBT)) (fun _ hk => hk.2) (.int .i64 tBU)) (fun _ hk => hk.2) (.int .i64 tBV)) (fun _ hk => hk.2) (.slice Ao29 tBW.length co29)) (fun _ h_ => h_.1))))) (Kd.R_lt (by (with_reducible repeat (first | apply Kd.R_alloc | apply Kd.R_drewN | apply Kd.R_drew)); exact (Kd.R_mono (Kd.R_far (p := ⟨gbBZ, 3, none⟩) (Kd.R_far (p := ⟨gbBZ, 2, none⟩) (Kd.R_far (p := ⟨gbBZ, 1, none⟩) (Kd.R_far (p := ⟨gbBZ, 0, none⟩) (Kd.R_types HOBQ.out BKBZ.out (by decide)) (fun _ hk => hk.2) (.int .i64 tBT)) (fun _ hk => hk.2) (.int .i64 tBU)) (fun _ hk => hk.2) (.int .i64 tBV)) (fun _ hk => hk.2) (.slice Ao29 tBW.length co29)) (fun _ h_ => h_.1))))) (Kd.R_lt (by (with_reducible repeat (first | apply Kd.R_alloc | apply Kd.R_drewN | apply Kd.R_drew)); exact (Kd.R_mono (Kd.R_far (p := ⟨gbBZ, 3, none⟩) (Kd.R_far (p := ⟨gbBZ, 2, none⟩) (Kd.R_far (p := ⟨gbBZ, 1, none⟩) (Kd.R_far (p := ⟨gbBZ, 0, none⟩) (Kd.R_types HOBY.out BKBZ.out (by decide)) (fun _ hk => hk.2) (.int .i64 tBT)) (fun _ hk => hk.2) (.int .i64 tBU)) (fun _ hk => hk.2) (.int .i64 tBV)) (fun _ hk => hk.2) (.slice Ao29 tBW.length co29)) (fun _ h_ => h_.1))))) (below_size belS)); have n4_ := Aside0.mk (blk_below (g := gbBD) (o := .cells #[.int .i64 a0_0, .int .i64 a0_1, .int .i64 a0_2, .slice A0_3 l0_3.length c0_3] 24 (0, 0)) (by (with_reducible repeat (first | refine blk_drewN ?_ _ | refine blk_drew ?_ | refine blk_alloc ?_ _)); refine blk_far ?_ NBBD_BZ.out _; (with_reducible repeat (first | refine blk_drewN ?_ _ | refine blk_drew ?_ | refine blk_alloc ?_ _)); refine blk_far ?_ NBBD_BZ.out _; (with_reducible repeat (first | refine blk_drewN ?_ _ | refine blk_drew ?_ | refine blk_alloc ?_ _)); refine blk_far ?_ NBBD_BZ.out _; (with_reducible repeat (first | refine blk_drewN ?_ _ | refine blk_drew ?_ | refine blk_alloc ?_ _)); refine blk_far ?_ NBBD_BZ.out _; (with_reducible repeat (first | refine blk_drewN ?_ _ | refine blk_drew ?_ | refine blk_alloc ?_ _)); exact BKBD.out) hb); have n5_ := Aside0.mk (blk_below (g := gbBS) (o := .cells #[.int .i64 tBL, .int .i64 tBM, .int .i64 tBN, .slice Ao22 tBO.length co22] 32 (0, 0)) (by (with_reducible repeat (first | refine blk_drewN ?_ _ | refine blk_drew ?_ | refine blk_alloc ?_ _)); refine blk_far ?_ NBBS_BZ.out _; (with_reducible repeat (first | refine blk_drewN ?_ _ | refine blk_drew ?_ | refine blk_alloc ?_ _)); refine blk_far ?_ NBBS_BZ.out _; (with_reducible repeat (first | refine blk_drewN ?_ _ | refine blk_drew ?_ | refine blk_alloc ?_ _)); refine blk_far ?_ NBBS_BZ.out _; (with_reducible repeat (first | refine blk_drewN ?_ _ | refine blk_drew ?_ | refine blk_alloc ?_ _)); refine blk_far ?_ NBBS_BZ.out _; (with_reducible repeat (first | refine blk_drewN ?_ _ | refine blk_drew ?_ | refine blk_alloc ?_ _)); exact BKBS.out) hb); have n6_ := Aside0.mk (blk_below (g := gbBZ) (o := .cells #[.int .i64 tBT, .int .i64 tBU, .int .i64 tBV, .slice Ao29 tBW.length co29] 32 (0, 0)) (by (with_reducible repeat (first | refine blk_drewN ?_ _ | refine blk_drew ?_ | refine blk_alloc ?_ _)); refine blk_put (cs := #[.int .i64 tBT, .int .i64 tBU, .int .i64 tBV, .slice none 0 0]) ?_ 3 _ rfl; (with_reducible repeat (first | refine blk_drewN ?_ _ | refine blk_drew ?_ | refine blk_alloc ?_ _)); refine blk_put (cs := #[.int .i64 tBT, .int .i64 tBU, .int .i64 0, .slice none 0 0]) ?_ 2 _ rfl; (with_reducible repeat (first | refine blk_drewN ?_ _ | refine blk_drew ?_ | refine blk_alloc ?_ _)); refine blk_put (cs := #[.int .i64 tBT, .int .i64 0, .int .i64 0, .slice none 0 0]) ?_ 1 _ rfl; (with_reducible repeat (first | refine blk_drewN ?_ _ | refine blk_drew ?_ | refine blk_alloc ?_ _)); refine blk_put (cs := #[.int .i64 0, .int .i64 0, .int .i64 0, .slice none 0 0]) ?_ 0 _ rfl; (with_reducible repeat (first | refine blk_drewN ?_ _ | refine blk_drew ?_ | refine blk_alloc ?_ _)); exact BKBZ.out) hb); have n7_ := Aside0.mk (below_step belS hb); clear HOBK; clear HOBQ; clear HOBY; clear BKBD; clear BKBS; clear BKBZ; clear HB; have HOBK := n0_; have HOBQ := n1_; have HOBY := n2_; have HOC5 := n3_; have BKBD := n4_; have BKBS := n5_; have BKBZ := n6_; have HB := n7_; clear n0_ n1_ n2_ n3_ n4_ n5_ n6_ n7_; (try clear hb); (try clear hb2); (try clear hk); (try clear hi); (try clear ho0)) | ((with_reducible refine gate_dst (N := 7) rfl ?_); refine box_event ?hg (N := 7) ?hd (cs := #[.int .i64 0, .int .i64 0, .int .i64 0, .slice none 0 0]) (t := 32) ?hr ?_; (case hd => rfl); (case hg => rfl); (case hr => first | (go_simp; done) | (go_simp; rfl)); intro gbC7 hg w31 hbox hb; have n0_ := Aside0.mk (Kd.R_below (Kd.R_up HOBK.out) hb); have n1_ := Aside0.mk (Kd.R_below (Kd.R_up HOBQ.out) hb); have n2_ := Aside0.mk (Kd.R_below (Kd.R_up HOBY.out) hb); have n3_ := Aside0.mk (Kd.R_below (Kd.R_up HOC5.out) hb); have n4_ := Aside0.mk (blk_below (blk_up BKBD.out) hb); have n5_ := Aside0.mk (blk_below (blk_up BKBS.out) hb); have n6_ := Aside0.mk (blk_below (blk_up BKBZ.out) hb); have n7_ := Aside0.mk (below_step belS hb); have n8_ := Aside0.mk (hbox); have n9_ := Aside0.mk ((by rw [hg]; exact (below_size belS) : w.heap.size ≤ gbC7)); have n10_ := n9_; have n11_ := Aside0.mk ((by rw [hg]; exact Nat.ne_of_lt (blk_lt (blk_up BKBD.out)) : gbBD ≠ gbC7)); have n12_ := Aside0.mk ((by rw [hg]; exact Nat.ne_of_gt (blk_lt (blk_up BKBD.out)) : gbC7 ≠ gbBD)); have n13_ := Aside0.mk ((by rw [hg]; exact Nat.ne_of_lt (blk_lt (blk_up BKBS.out)) : gbBS ≠ gbC7)); have n14_ := Aside0.mk ((by rw [hg]; exact Nat.ne_of_gt (blk_lt (blk_up BKBS.out)) : gbC7 ≠ gbBS)); have n15_ := Aside0.mk ((by rw [hg]; exact Nat.ne_of_lt (blk_lt (blk_up BKBZ.out)) : gbBZ ≠ gbC7)); have n16_ := Aside0.mk ((by rw [hg]; exact Nat.ne_of_gt (blk_lt (blk_up BKBZ.out)) : gbC7 ≠ gbBZ)); clear HOBK; clear HOBQ; clear HOBY; clear HOC5; clear BKBD; clear BKBS; clear BKBZ; clear HB; have HOBK := n0_; have HOBQ := n1_; have HOBY := n2_; have HOC5 := n3_; have BKBD := n4_; have BKBS := n5_; have BKBZ := n6_; have HB := n7_; have BKC7 := n8_; have GWC7 := n9_; have GEC7 := n10_; have NBBD_C7 := n11_; have NBC7_BD := n12_; have NBBS_C7 := n13_; have NBC7_BS := n14_; have NBBZ_C7 := n15_; have NBC7_BZ := n16_; clear n0_ n1_ n2_ n3_ n4_ n5_ n6_ n7_ n8_ n9_ n10_ n11_ n12_ n13_ n14_ n15_ n16_; clear hb hbox hg; have hnb32 := NBC7_BD.out; have hnc32 := NBBD_C7.out; have hnb33 := NBC7_BS.out; have hnc33 := NBBS_C7.out; have hnb34 := NBC7_BZ.out; have hnc34 := NBBZ_C7.out; obtain ⟨hcz35_0, hcz35_1, hcz35_2, hcz35_3, hfz35_0, hfz35_1, hfz35_2, hfz35_3⟩ := blk4 BKC7.out; obtain ⟨Ao36, co36, eo36⟩ := Kd.R_slice HOC5.out; subst eo36))
  (try simp only [Act.put, List.setIfInBounds_toArray, List.set_cons_zero, List.set_cons_succ])
  go_cut [40] (fun v40 wc => ∃ (kq : Nat) (x40_10 : Bool), v40 = .bool x40_10 ∧ Aside0 (laws_FnExactTurnJumps.j0 kq tBR tC6 x40_10 a0_0 a0_1 a0_2 l0_3 tBL tBM tBN tBO tBT tBU tBV tBW tC0 tC1 tC2 tC3 = some r) ∧ Aside0 (kq ≤ k) ∧ Aside0 (Kd.R k27 27 wc w.heap.size (fun k_ => some k_ ≠ ((.slice Ao29 tBW.length co29) : Value).ownBlock ∧ some k_ ≠ ((.slice Ao36 tC3.length co36) : Value).ownBlock) (.slice Ao22 tBO.length co22) tBO) ∧ Aside0 (Kd.R k27 27 wc w.heap.size (fun k_ => some k_ ≠ ((.slice Ao22 tBO.length co22) : Value).ownBlock ∧ some k_ ≠ ((.slice Ao36 tC3.length co36) : Value).ownBlock) (.slice Ao29 tBW.length co29) tBW) ∧ Aside0 (Kd.R k27 27 wc w.heap.size (fun k_ => some k_ ≠ ((.slice Ao22 tBO.length co22) : Value).ownBlock ∧ some k_ ≠ ((.slice Ao29 tBW.length co29) : Value).ownBlock) (.slice Ao36 tC3.length co36) tC3) ∧ Aside0 (wc.heap[gbBD]? = some (.cells #[.int .i64 a0_0, .int .i64 a0_1, .int .i64 a0_2, (.slice A0_3 l0_3.length c0_3)] 24 (0, 0))) ∧ Aside0 (wc.heap[gbBS]? = some (.cells #[.int .i64 tBL, .int .i64 tBM, .int .i64 tBN, (.slice Ao22 tBO.length co22)] 32 (0, 0))) ∧ Aside0 (wc.heap[gbBZ]? = some (.cells #[.int .i64 tBT, .int .i64 tBU, .int .i64 tBV, (.slice Ao29 tBW.length co29)] 32 (0, 0))) ∧ Aside0 (wc.heap[gbC7]? = some (.cells #[.int .i64 tC0, .int .i64 tC1, .int .i64 tC2, (.slice Ao36 tC3.length co36)] 32 (0, 0))) ∧ Aside0 (Below w.heap.size w wc))
  case first =>
   have H := HC11.out
   clear HC11
   replace H := Option.bind_eq_some_iff.mp H
   obtain ⟨tC8, A370, H⟩ := H
   replace H : (if tC8 = true then (laws_FnExactTurnJumps.j0 k tBR tC6 (tC6 != tBR) a0_0 a0_1 a0_2 l0_3 tBL tBM tBN tBO tBT tBU tBV tBW tC0 tC1 tC2 tC3) else (laws_FnExactTurnJumps.j0 k tBR tC6 true a0_0 a0_1 a0_2 l0_3 tBL tBM tBN tBO tBT tBU tBV tBW tC0 tC1 tC2 tC3)) = some r := H
   have A37 := Aside0.mk A370
   clear A370
   by_cases c38 : tC8 = true
   ·subst c38
    have H1 : (laws_FnExactTurnJumps.j0 k tBR tC6 (tC6 != tBR) a0_0 a0_1 a0_2 l0_3 tBL tBM tBN tBO tBT tBU tBV tBW tC0 tC1 tC2 tC3) = some r := by rw [if_pos rfl] at H; exact H
    clear H
    have H := H1
    clear H1
    have H' := Aside0.mk H
    clear H
    have hnb39 := NBC7_BD.out
    have hnc39 := NBBD_C7.out
    have hnb40 := NBC7_BS.out
    have hnc40 := NBBS_C7.out
    have hnb41 := NBC7_BZ.out
    have hnc41 := NBBZ_C7.out
    obtain ⟨hcz42_0, hcz42_1, hcz42_2, hcz42_3, hfz42_0, hfz42_1, hfz42_2, hfz42_3⟩ := blk4 BKC7.out
    have hnb43 := NBBS_BD.out
    have hnc43 := NBBD_BS.out
    have hnb44 := NBBS_BZ.out
    have hnc44 := NBBZ_BS.out
    obtain ⟨hcz45_0, hcz45_1, hcz45_2, hcz45_3, hfz45_0, hfz45_1, hfz45_2, hfz45_3⟩ := blk4 BKBS.out
    go_wp2_with (first | ((with_reducible refine gate_callee (f := 42) rfl ?_); refine goesL_ (some 34) rfl rfl Try.func42 (by kernel_rfl) rfl #[.agg #[.int .i64 tC0, .int .i64 tC1, .int .i64 tC2, .slice Ao36 tC3.length co36], .agg #[.int .i64 tBL, .int .i64 tBM, .int .i64 tBN, .slice Ao22 tBO.length co22]] rfl argS ?_; (with_reducible refine (laws_eqBoard.calls k tC0 tC1 tC2 _ _ tC3 tBL tBM tBN _ _ tBO true _ ?side1 ?side2 ?side3 ?side4 A37.out).mono ?_); (case side1 => refine (Kd.R_reads' (e := 27) (base := w.heap.size) (ok := fun k_ => (((True ∧ some k_ ≠ (.slice Ao17 tBI.length co17 : Value).ownBlock) ∧ some k_ ≠ (.slice Ao22 tBO.length co22 : Value).ownBlock) ∧ some k_ ≠ (.slice Ao29 tBW.length co29 : Value).ownBlock)) (n := tC3.length) (c := co36) ?_).2.2; exact (by (with_reducible repeat (first | apply Kd.R_alloc | apply Kd.R_drewN | apply Kd.R_drew)); exact (Kd.R_mono (Kd.R_far (p := ⟨gbC7, 3, none⟩) (Kd.R_far (p := ⟨gbC7, 2, none⟩) (Kd.R_far (p := ⟨gbC7, 1, none⟩) (Kd.R_far (p := ⟨gbC7, 0, none⟩) (Kd.R_types HOC5.out BKC7.out (by decide)) (fun _ hk => hk.2) (.int .i64 tC0)) (fun _ hk => hk.2) (.int .i64 tC1)) (fun _ hk => hk.2) (.int .i64 tC2)) (fun _ hk => hk.2) (.slice Ao36 tC3.length co36)) (fun _ h_ => h_.1)))); (case side2 => exact (Kd.R_reads' HOC5.out).2.1); (case side3 => refine (Kd.R_reads' (e := 27) (base := w.heap.size) (ok := fun k_ => (((True ∧ some k_ ≠ (.slice Ao17 tBI.length co17 : Value).ownBlock) ∧ some k_ ≠ (.slice Ao29 tBW.length co29 : Value).ownBlock) ∧ some k_ ≠ (.slice Ao36 tC3.length co36 : Value).ownBlock)) (n := tBO.length) (c := co22) ?_).2.2; exact (by (with_reducible repeat (first | apply Kd.R_alloc | apply Kd.R_drewN | apply Kd.R_drew)); exact (Kd.R_mono (Kd.R_far (p := ⟨gbC7, 3, none⟩) (Kd.R_far (p := ⟨gbC7, 2, none⟩) (Kd.R_far (p := ⟨gbC7, 1, none⟩) (Kd.R_far (p := ⟨gbC7, 0, none⟩) (Kd.R_types HOBQ.out BKC7.out (by decide)) (fun _ hk => hk.2) (.int .i64 tC0)) (fun _ hk => hk.2) (.int .i64 tC1)) (fun _ hk => hk.2) (.int .i64 tC2)) (fun _ hk => hk.2) (.slice Ao36 tC3.length co36)) (fun _ h_ => h_.1)))); (case side4 => exact (Kd.R_reads' HOBQ.out).2.1); rintro e w46 ⟨rfl, hb⟩; refine ⟨_, rfl, ?_⟩; have n0_ := Aside0.mk (Kd.R_below (by (with_reducible repeat (first | apply Kd.R_alloc | apply Kd.R_drewN | apply Kd.R_drew)); exact (Kd.R_mono (Kd.R_far (p := ⟨gbC7, 3, none⟩) (Kd.R_far (p := ⟨gbC7, 2, none⟩) (Kd.R_far (p := ⟨gbC7, 1, none⟩) (Kd.R_far (p := ⟨gbC7, 0, none⟩) (Kd.R_types HOBK.out BKC7.out (by decide)) (fun _ hk => hk.2) (.int .i64 tC0)) (fun _ hk => hk.2) (.int .i64 tC1)) (fun _ hk => hk.2) (.int .i64 tC2)) (fun _ hk => hk.2) (.slice Ao36 tC3.length co36)) (fun _ h_ => h_.1))) hb); have n1_ := Aside0.mk (Kd.R_below (by (with_reducible repeat (first | apply Kd.R_alloc | apply Kd.R_drewN | apply Kd.R_drew)); exact (Kd.R_mono (Kd.R_far (p := ⟨gbC7, 3, none⟩) (Kd.R_far (p := ⟨gbC7, 2, none⟩) (Kd.R_far (p := ⟨gbC7, 1, none⟩) (Kd.R_far (p := ⟨gbC7, 0, none⟩) (Kd.R_types HOBQ.out BKC7.out (by decide)) (fun _ hk => hk.2) (.int .i64 tC0)) (fun _ hk => hk.2) (.int .i64 tC1)) (fun _ hk => hk.2) (.int .i64 tC2)) (fun _ hk => hk.2) (.slice Ao36 tC3.length co36)) (fun _ h_ => h_.1))) hb); have n2_ := Aside0.mk (Kd.R_below (by (with_reducible repeat (first | apply Kd.R_alloc | apply Kd.R_drewN | apply Kd.R_drew)); exact (Kd.R_mono (Kd.R_far (p := ⟨gbC7, 3, none⟩) (Kd.R_far (p := ⟨gbC7, 2, none⟩) (Kd.R_far (p := ⟨gbC7, 1, none⟩) (Kd.R_far (p := ⟨gbC7, 0, none⟩) (Kd.R_types HOBY.out BKC7.out (by decide)) (fun _ hk => hk.2) (.int .i64 tC0)) (fun _ hk => hk.2) (.int .i64 tC1)) (fun _ hk => hk.2) (.int .i64 tC2)) (fun _ hk => hk.2) (.slice Ao36 tC3.length co36)) (fun _ h_ => h_.1))) hb); have n3_ := Aside0.mk (Kd.R_below (by (with_reducible repeat (first | apply Kd.R_alloc | apply Kd.R_drewN | apply Kd.R_drew)); exact (Kd.R_mono (Kd.R_far (p := ⟨gbC7, 3, none⟩) (Kd.R_far (p := ⟨gbC7, 2, none⟩) (Kd.R_far (p := ⟨gbC7, 1, none⟩) (Kd.R_far (p := ⟨gbC7, 0, none⟩) (Kd.R_types HOC5.out BKC7.out (by decide)) (fun _ hk => hk.2) (.int .i64 tC0)) (fun _ hk => hk.2) (.int .i64 tC1)) (fun _ hk => hk.2) (.int .i64 tC2)) (fun _ hk => hk.2) (.slice Ao36 tC3.length co36)) (fun _ h_ => h_.1))) hb); have n4_ := Aside0.mk (blk_below (g := gbBD) (o := .cells #[.int .i64 a0_0, .int .i64 a0_1, .int .i64 a0_2, .slice A0_3 l0_3.length c0_3] 24 (0, 0)) (by (with_reducible repeat (first | refine blk_drewN ?_ _ | refine blk_drew ?_ | refine blk_alloc ?_ _)); refine blk_far ?_ NBBD_C7.out _; (with_reducible repeat (first | refine blk_drewN ?_ _ | refine blk_drew ?_ | refine blk_alloc ?_ _)); refine blk_far ?_ NBBD_C7.out _; (with_reducible repeat (first | refine blk_drewN ?_ _ | refine blk_drew ?_ | refine blk_alloc ?_ _)); refine blk_far ?_ NBBD_C7.out _; (with_reducible repeat (first | refine blk_drewN ?_ _ | refine blk_drew ?_ | refine blk_alloc ?_ _)); refine blk_far ?_ NBBD_C7.out _; (with_reducible repeat (first | refine blk_drewN ?_ _ | refine blk_drew ?_ | refine blk_alloc ?_ _)); exact BKBD.out) hb); have n5_ := Aside0.mk (blk_below (g := gbBS) (o := .cells #[.int .i64 tBL, .int .i64 tBM, .int .i64 tBN, .slice Ao22 tBO.length co22] 32 (0, 0)) (by (with_reducible repeat (first | refine blk_drewN ?_ _ | refine blk_drew ?_ | refine blk_alloc ?_ _)); refine blk_far ?_ NBBS_C7.out _; (with_reducible repeat (first | refine blk_drewN ?_ _ | refine blk_drew ?_ | refine blk_alloc ?_ _)); refine blk_far ?_ NBBS_C7.out _; (with_reducible repeat (first | refine blk_drewN ?_ _ | refine blk_drew ?_ | refine blk_alloc ?_ _)); refine blk_far ?_ NBBS_C7.out _; (with_reducible repeat (first | refine blk_drewN ?_ _ | refine blk_drew ?_ | refine blk_alloc ?_ _)); refine blk_far ?_ NBBS_C7.out _; (with_reducible repeat (first | refine blk_drewN ?_ _ | refine blk_drew ?_ | refine blk_alloc ?_ _)); exact BKBS.out) hb); have n6_ := Aside0.mk (blk_below (g := gbBZ) (o := .cells #[.int .i64 tBT, .int .i64 tBU, .int .i64 tBV, .slice Ao29 tBW.length co29] 32 (0, 0)) (by (with_reducible repeat (first | refine blk_drewN ?_ _ | refine blk_drew ?_ | refine blk_alloc ?_ _)); refine blk_far ?_ NBBZ_C7.out _; (with_reducible repeat (first | refine blk_drewN ?_ _ | refine blk_drew ?_ | refine blk_alloc ?_ _)); refine blk_far ?_ NBBZ_C7.out _; (with_reducible repeat (first | refine blk_drewN ?_ _ | refine blk_drew ?_ | refine blk_alloc ?_ _)); refine blk_far ?_ NBBZ_C7.out _; (with_reducible repeat (first | refine blk_drewN ?_ _ | refine blk_drew ?_ | refine blk_alloc ?_ _)); refine blk_far ?_ NBBZ_C7.out _; (with_reducible repeat (first | refine blk_drewN ?_ _ | refine blk_drew ?_ | refine blk_alloc ?_ _)); exact BKBZ.out) hb); have n7_ := Aside0.mk (blk_below (g := gbC7) (o := .cells #[.int .i64 tC0, .int .i64 tC1, .int .i64 tC2, .slice Ao36 tC3.length co36] 32 (0, 0)) (by (with_reducible repeat (first | refine blk_drewN ?_ _ | refine blk_drew ?_ | refine blk_alloc ?_ _)); refine blk_put (cs := #[.int .i64 tC0, .int .i64 tC1, .int .i64 tC2, .slice none 0 0]) ?_ 3 _ rfl; (with_reducible repeat (first | refine blk_drewN ?_ _ | refine blk_drew ?_ | refine blk_alloc ?_ _)); refine blk_put (cs := #[.int .i64 tC0, .int .i64 tC1, .int .i64 0, .slice none 0 0]) ?_ 2 _ rfl; (with_reducible repeat (first | refine blk_drewN ?_ _ | refine blk_drew ?_ | refine blk_alloc ?_ _)); refine blk_put (cs := #[.int .i64 tC0, .int .i64 0, .int .i64 0, .slice none 0 0]) ?_ 1 _ rfl; (with_reducible repeat (first | refine blk_drewN ?_ _ | refine blk_drew ?_ | refine blk_alloc ?_ _)); refine blk_put (cs := #[.int .i64 0, .int .i64 0, .int .i64 0, .slice none 0 0]) ?_ 0 _ rfl; (with_reducible repeat (first | refine blk_drewN ?_ _ | refine blk_drew ?_ | refine blk_alloc ?_ _)); exact BKC7.out) hb); have n8_ := Aside0.mk (below_step belS hb); clear HOBK; clear HOBQ; clear HOBY; clear HOC5; clear BKBD; clear BKBS; clear BKBZ; clear BKC7; clear HB; have HOBK := n0_; have HOBQ := n1_; have HOBY := n2_; have HOC5 := n3_; have BKBD := n4_; have BKBS := n5_; have BKBZ := n6_; have BKC7 := n7_; have HB := n8_; clear n0_ n1_ n2_ n3_ n4_ n5_ n6_ n7_ n8_; (try clear hb); (try clear hb2); (try clear hk); (try clear hi)))
    go_meet
    case rel => exact ⟨_, ((tC6 != tBR)), (by first | rfl | (simp; done) | (simp [*]; done)), H', ⟨by first | omega | exact Nat.le_refl _⟩, ⟨by (with_reducible repeat (first | apply Kd.R_alloc | apply Kd.R_drewN | apply Kd.R_drew)); exact Kd.R_mono HOBQ.out (fun _ hk => ⟨hk.1.2, hk.2⟩)⟩, ⟨by (with_reducible repeat (first | apply Kd.R_alloc | apply Kd.R_drewN | apply Kd.R_drew)); exact Kd.R_mono HOBY.out (fun _ hk => ⟨hk.1.2, hk.2⟩)⟩, ⟨by (with_reducible repeat (first | apply Kd.R_alloc | apply Kd.R_drewN | apply Kd.R_drew)); exact Kd.R_mono HOC5.out (fun _ hk => ⟨hk.1.2, hk.2⟩)⟩, ⟨by (with_reducible repeat (first | refine blk_drewN ?_ _ | refine blk_drew ?_ | refine blk_alloc ?_ _)); exact BKBD.out⟩, ⟨by (with_reducible repeat (first | refine blk_drewN ?_ _ | refine blk_drew ?_ | refine blk_alloc ?_ _)); exact BKBS.out⟩, ⟨by (with_reducible repeat (first | refine blk_drewN ?_ _ | refine blk_drew ?_ | refine blk_alloc ?_ _)); exact BKBZ.out⟩, ⟨by (with_reducible repeat (first | refine blk_drewN ?_ _ | refine blk_drew ?_ | refine blk_alloc ?_ _)); exact BKC7.out⟩, ⟨by exact belS⟩⟩
   ·replace c38 := Bool.eq_false_iff.mpr c38
    subst c38
    have H1 : (laws_FnExactTurnJumps.j0 k tBR tC6 true a0_0 a0_1 a0_2 l0_3 tBL tBM tBN tBO tBT tBU tBV tBW tC0 tC1 tC2 tC3) = some r := by rw [if_neg (show ¬ (false = true) by decide)] at H; exact H
    clear H
    have H := H1
    clear H1
    have H' := Aside0.mk H
    clear H
    have hnb47 := NBC7_BD.out
    have hnc47 := NBBD_C7.out
    have hnb48 := NBC7_BS.out
    have hnc48 := NBBS_C7.out
    have hnb49 := NBC7_BZ.out
    have hnc49 := NBBZ_C7.out
    obtain ⟨hcz50_0, hcz50_1, hcz50_2, hcz50_3, hfz50_0, hfz50_1, hfz50_2, hfz50_3⟩ := blk4 BKC7.out
    have hnb51 := NBBS_BD.out
    have hnc51 := NBBD_BS.out
    have hnb52 := NBBS_BZ.out
    have hnc52 := NBBZ_BS.out
    obtain ⟨hcz53_0, hcz53_1, hcz53_2, hcz53_3, hfz53_0, hfz53_1, hfz53_2, hfz53_3⟩ := blk4 BKBS.out
    go_wp2_with (first | ((with_reducible refine gate_callee (f := 42) rfl ?_); refine goesL_ (some 34) rfl rfl Try.func42 (by kernel_rfl) rfl #[.agg #[.int .i64 tC0, .int .i64 tC1, .int .i64 tC2, .slice Ao36 tC3.length co36], .agg #[.int .i64 tBL, .int .i64 tBM, .int .i64 tBN, .slice Ao22 tBO.length co22]] rfl argS ?_; (with_reducible refine (laws_eqBoard.calls k tC0 tC1 tC2 _ _ tC3 tBL tBM tBN _ _ tBO false _ ?side1 ?side2 ?side3 ?side4 A37.out).mono ?_); (case side1 => refine (Kd.R_reads' (e := 27) (base := w.heap.size) (ok := fun k_ => (((True ∧ some k_ ≠ (.slice Ao17 tBI.length co17 : Value).ownBlock) ∧ some k_ ≠ (.slice Ao22 tBO.length co22 : Value).ownBlock) ∧ some k_ ≠ (.slice Ao29 tBW.length co29 : Value).ownBlock)) (n := tC3.length) (c := co36) ?_).2.2; exact (by (with_reducible repeat (first | apply Kd.R_alloc | apply Kd.R_drewN | apply Kd.R_drew)); exact (Kd.R_mono (Kd.R_far (p := ⟨gbC7, 3, none⟩) (Kd.R_far (p := ⟨gbC7, 2, none⟩) (Kd.R_far (p := ⟨gbC7, 1, none⟩) (Kd.R_far (p := ⟨gbC7, 0, none⟩) (Kd.R_types HOC5.out BKC7.out (by decide)) (fun _ hk => hk.2) (.int .i64 tC0)) (fun _ hk => hk.2) (.int .i64 tC1)) (fun _ hk => hk.2) (.int .i64 tC2)) (fun _ hk => hk.2) (.slice Ao36 tC3.length co36)) (fun _ h_ => h_.1)))); (case side2 => exact (Kd.R_reads' HOC5.out).2.1); (case side3 => refine (Kd.R_reads' (e := 27) (base := w.heap.size) (ok := fun k_ => (((True ∧ some k_ ≠ (.slice Ao17 tBI.length co17 : Value).ownBlock) ∧ some k_ ≠ (.slice Ao29 tBW.length co29 : Value).ownBlock) ∧ some k_ ≠ (.slice Ao36 tC3.length co36 : Value).ownBlock)) (n := tBO.length) (c := co22) ?_).2.2; exact (by (with_reducible repeat (first | apply Kd.R_alloc | apply Kd.R_drewN | apply Kd.R_drew)); exact (Kd.R_mono (Kd.R_far (p := ⟨gbC7, 3, none⟩) (Kd.R_far (p := ⟨gbC7, 2, none⟩) (Kd.R_far (p := ⟨gbC7, 1, none⟩) (Kd.R_far (p := ⟨gbC7, 0, none⟩) (Kd.R_types HOBQ.out BKC7.out (by decide)) (fun _ hk => hk.2) (.int .i64 tC0)) (fun _ hk => hk.2) (.int .i64 tC1)) (fun _ hk => hk.2) (.int .i64 tC2)) (fun _ hk => hk.2) (.slice Ao36 tC3.length co36)) (fun _ h_ => h_.1)))); (case side4 => exact (Kd.R_reads' HOBQ.out).2.1); rintro e w54 ⟨rfl, hb⟩; refine ⟨_, rfl, ?_⟩; have n0_ := Aside0.mk (Kd.R_below (by (with_reducible repeat (first | apply Kd.R_alloc | apply Kd.R_drewN | apply Kd.R_drew)); exact (Kd.R_mono (Kd.R_far (p := ⟨gbC7, 3, none⟩) (Kd.R_far (p := ⟨gbC7, 2, none⟩) (Kd.R_far (p := ⟨gbC7, 1, none⟩) (Kd.R_far (p := ⟨gbC7, 0, none⟩) (Kd.R_types HOBK.out BKC7.out (by decide)) (fun _ hk => hk.2) (.int .i64 tC0)) (fun _ hk => hk.2) (.int .i64 tC1)) (fun _ hk => hk.2) (.int .i64 tC2)) (fun _ hk => hk.2) (.slice Ao36 tC3.length co36)) (fun _ h_ => h_.1))) hb); have n1_ := Aside0.mk (Kd.R_below (by (with_reducible repeat (first | apply Kd.R_alloc | apply Kd.R_drewN | apply Kd.R_drew)); exact (Kd.R_mono (Kd.R_far (p := ⟨gbC7, 3, none⟩) (Kd.R_far (p := ⟨gbC7, 2, none⟩) (Kd.R_far (p := ⟨gbC7, 1, none⟩) (Kd.R_far (p := ⟨gbC7, 0, none⟩) (Kd.R_types HOBQ.out BKC7.out (by decide)) (fun _ hk => hk.2) (.int .i64 tC0)) (fun _ hk => hk.2) (.int .i64 tC1)) (fun _ hk => hk.2) (.int .i64 tC2)) (fun _ hk => hk.2) (.slice Ao36 tC3.length co36)) (fun _ h_ => h_.1))) hb); have n2_ := Aside0.mk (Kd.R_below (by (with_reducible repeat (first | apply Kd.R_alloc | apply Kd.R_drewN | apply Kd.R_drew)); exact (Kd.R_mono (Kd.R_far (p := ⟨gbC7, 3, none⟩) (Kd.R_far (p := ⟨gbC7, 2, none⟩) (Kd.R_far (p := ⟨gbC7, 1, none⟩) (Kd.R_far (p := ⟨gbC7, 0, none⟩) (Kd.R_types HOBY.out BKC7.out (by decide)) (fun _ hk => hk.2) (.int .i64 tC0)) (fun _ hk => hk.2) (.int .i64 tC1)) (fun _ hk => hk.2) (.int .i64 tC2)) (fun _ hk => hk.2) (.slice Ao36 tC3.length co36)) (fun _ h_ => h_.1))) hb); have n3_ := Aside0.mk (Kd.R_below (by (with_reducible repeat (first | apply Kd.R_alloc | apply Kd.R_drewN | apply Kd.R_drew)); exact (Kd.R_mono (Kd.R_far (p := ⟨gbC7, 3, none⟩) (Kd.R_far (p := ⟨gbC7, 2, none⟩) (Kd.R_far (p := ⟨gbC7, 1, none⟩) (Kd.R_far (p := ⟨gbC7, 0, none⟩) (Kd.R_types HOC5.out BKC7.out (by decide)) (fun _ hk => hk.2) (.int .i64 tC0)) (fun _ hk => hk.2) (.int .i64 tC1)) (fun _ hk => hk.2) (.int .i64 tC2)) (fun _ hk => hk.2) (.slice Ao36 tC3.length co36)) (fun _ h_ => h_.1))) hb); have n4_ := Aside0.mk (blk_below (g := gbBD) (o := .cells #[.int .i64 a0_0, .int .i64 a0_1, .int .i64 a0_2, .slice A0_3 l0_3.length c0_3] 24 (0, 0)) (by (with_reducible repeat (first | refine blk_drewN ?_ _ | refine blk_drew ?_ | refine blk_alloc ?_ _)); refine blk_far ?_ NBBD_C7.out _; (with_reducible repeat (first | refine blk_drewN ?_ _ | refine blk_drew ?_ | refine blk_alloc ?_ _)); refine blk_far ?_ NBBD_C7.out _; (with_reducible repeat (first | refine blk_drewN ?_ _ | refine blk_drew ?_ | refine blk_alloc ?_ _)); refine blk_far ?_ NBBD_C7.out _; (with_reducible repeat (first | refine blk_drewN ?_ _ | refine blk_drew ?_ | refine blk_alloc ?_ _)); refine blk_far ?_ NBBD_C7.out _; (with_reducible repeat (first | refine blk_drewN ?_ _ | refine blk_drew ?_ | refine blk_alloc ?_ _)); exact BKBD.out) hb); have n5_ := Aside0.mk (blk_below (g := gbBS) (o := .cells #[.int .i64 tBL, .int .i64 tBM, .int .i64 tBN, .slice Ao22 tBO.length co22] 32 (0, 0)) (by (with_reducible repeat (first | refine blk_drewN ?_ _ | refine blk_drew ?_ | refine blk_alloc ?_ _)); refine blk_far ?_ NBBS_C7.out _; (with_reducible repeat (first | refine blk_drewN ?_ _ | refine blk_drew ?_ | refine blk_alloc ?_ _)); refine blk_far ?_ NBBS_C7.out _; (with_reducible repeat (first | refine blk_drewN ?_ _ | refine blk_drew ?_ | refine blk_alloc ?_ _)); refine blk_far ?_ NBBS_C7.out _; (with_reducible repeat (first | refine blk_drewN ?_ _ | refine blk_drew ?_ | refine blk_alloc ?_ _)); refine blk_far ?_ NBBS_C7.out _; (with_reducible repeat (first | refine blk_drewN ?_ _ | refine blk_drew ?_ | refine blk_alloc ?_ _)); exact BKBS.out) hb); have n6_ := Aside0.mk (blk_below (g := gbBZ) (o := .cells #[.int .i64 tBT, .int .i64 tBU, .int .i64 tBV, .slice Ao29 tBW.length co29] 32 (0, 0)) (by (with_reducible repeat (first | refine blk_drewN ?_ _ | refine blk_drew ?_ | refine blk_alloc ?_ _)); refine blk_far ?_ NBBZ_C7.out _; (with_reducible repeat (first | refine blk_drewN ?_ _ | refine blk_drew ?_ | refine blk_alloc ?_ _)); refine blk_far ?_ NBBZ_C7.out _; (with_reducible repeat (first | refine blk_drewN ?_ _ | refine blk_drew ?_ | refine blk_alloc ?_ _)); refine blk_far ?_ NBBZ_C7.out _; (with_reducible repeat (first | refine blk_drewN ?_ _ | refine blk_drew ?_ | refine blk_alloc ?_ _)); refine blk_far ?_ NBBZ_C7.out _; (with_reducible repeat (first | refine blk_drewN ?_ _ | refine blk_drew ?_ | refine blk_alloc ?_ _)); exact BKBZ.out) hb); have n7_ := Aside0.mk (blk_below (g := gbC7) (o := .cells #[.int .i64 tC0, .int .i64 tC1, .int .i64 tC2, .slice Ao36 tC3.length co36] 32 (0, 0)) (by (with_reducible repeat (first | refine blk_drewN ?_ _ | refine blk_drew ?_ | refine blk_alloc ?_ _)); refine blk_put (cs := #[.int .i64 tC0, .int .i64 tC1, .int .i64 tC2, .slice none 0 0]) ?_ 3 _ rfl; (with_reducible repeat (first | refine blk_drewN ?_ _ | refine blk_drew ?_ | refine blk_alloc ?_ _)); refine blk_put (cs := #[.int .i64 tC0, .int .i64 tC1, .int .i64 0, .slice none 0 0]) ?_ 2 _ rfl; (with_reducible repeat (first | refine blk_drewN ?_ _ | refine blk_drew ?_ | refine blk_alloc ?_ _)); refine blk_put (cs := #[.int .i64 tC0, .int .i64 0, .int .i64 0, .slice none 0 0]) ?_ 1 _ rfl; (with_reducible repeat (first | refine blk_drewN ?_ _ | refine blk_drew ?_ | refine blk_alloc ?_ _)); refine blk_put (cs := #[.int .i64 0, .int .i64 0, .int .i64 0, .slice none 0 0]) ?_ 0 _ rfl; (with_reducible repeat (first | refine blk_drewN ?_ _ | refine blk_drew ?_ | refine blk_alloc ?_ _)); exact BKC7.out) hb); have n8_ := Aside0.mk (below_step belS hb); clear HOBK; clear HOBQ; clear HOBY; clear HOC5; clear BKBD; clear BKBS; clear BKBZ; clear BKC7; clear HB; have HOBK := n0_; have HOBQ := n1_; have HOBY := n2_; have HOC5 := n3_; have BKBD := n4_; have BKBS := n5_; have BKBZ := n6_; have BKC7 := n7_; have HB := n8_; clear n0_ n1_ n2_ n3_ n4_ n5_ n6_ n7_ n8_; (try clear hb); (try clear hb2); (try clear hk); (try clear hi)))
    go_meet
    case rel => exact ⟨_, (true), (by first | rfl | (simp; done) | (simp [*]; done)), H', ⟨by first | omega | exact Nat.le_refl _⟩, ⟨by (with_reducible repeat (first | apply Kd.R_alloc | apply Kd.R_drewN | apply Kd.R_drew)); exact Kd.R_mono HOBQ.out (fun _ hk => ⟨hk.1.2, hk.2⟩)⟩, ⟨by (with_reducible repeat (first | apply Kd.R_alloc | apply Kd.R_drewN | apply Kd.R_drew)); exact Kd.R_mono HOBY.out (fun _ hk => ⟨hk.1.2, hk.2⟩)⟩, ⟨by (with_reducible repeat (first | apply Kd.R_alloc | apply Kd.R_drewN | apply Kd.R_drew)); exact Kd.R_mono HOC5.out (fun _ hk => ⟨hk.1.2, hk.2⟩)⟩, ⟨by (with_reducible repeat (first | refine blk_drewN ?_ _ | refine blk_drew ?_ | refine blk_alloc ?_ _)); exact BKBD.out⟩, ⟨by (with_reducible repeat (first | refine blk_drewN ?_ _ | refine blk_drew ?_ | refine blk_alloc ?_ _)); exact BKBS.out⟩, ⟨by (with_reducible repeat (first | refine blk_drewN ?_ _ | refine blk_drew ?_ | refine blk_alloc ?_ _)); exact BKBZ.out⟩, ⟨by (with_reducible repeat (first | refine blk_drewN ?_ _ | refine blk_drew ?_ | refine blk_alloc ?_ _)); exact BKC7.out⟩, ⟨by exact belS⟩⟩
  case rest =>
   clear HC11
   try clear c1
   try clear c2
   try clear p2
   try clear c3
   try clear c3b0
   try clear c4
   try clear c5
   try clear c10
   try clear c20
   try clear c26
   try clear c27
   try clear c32
   try clear c33
   try clear c34
   try clear c37
   try clear c38
   try clear c39
   try clear c40
   try clear c41
   try clear c42
   try clear c43
   try clear c44
   try clear c47
   try clear c48
   try clear c49
   try clear c51
   try clear c52
   try clear hcz13_0 hcz13_1 hcz13_2 hcz13_3
   try clear hcz15_0 hcz15_1 hcz15_2 hcz15_3
   try clear hcz21_0 hcz21_1 hcz21_2 hcz21_3
   try clear hcz23_0 hcz23_1 hcz23_2 hcz23_3
   try clear hcz28_0 hcz28_1 hcz28_2 hcz28_3
   try clear hcz35_0 hcz35_1 hcz35_2 hcz35_3
   try clear hcz42_0 hcz42_1 hcz42_2 hcz42_3
   try clear hcz45_0 hcz45_1 hcz45_2 hcz45_3
   try clear hcz50_0 hcz50_1 hcz50_2 hcz50_3
   try clear hcz53_0 hcz53_1 hcz53_2 hcz53_3
   try clear hcz5_0 hcz5_1 hcz5_2 hcz5_3
   try clear hfz13_0 hfz13_1 hfz13_2 hfz13_3
   try clear hfz15_0 hfz15_1 hfz15_2 hfz15_3
   try clear hfz21_0 hfz21_1 hfz21_2 hfz21_3
   try clear hfz23_0 hfz23_1 hfz23_2 hfz23_3
   try clear hfz28_0 hfz28_1 hfz28_2 hfz28_3
   try clear hfz35_0 hfz35_1 hfz35_2 hfz35_3
   try clear hfz42_0 hfz42_1 hfz42_2 hfz42_3
   try clear hfz45_0 hfz45_1 hfz45_2 hfz45_3
   try clear hfz50_0 hfz50_1 hfz50_2 hfz50_3
   try clear hfz53_0 hfz53_1 hfz53_2 hfz53_3
   try clear hfz5_0 hfz5_1 hfz5_2 hfz5_3
   obtain ⟨kq, x40_10, rfl, HA, HJ10, HO_BT003, HO_C0003, HO_C8003, BKBD, BKBS, BKBZ, BKC7, HB⟩ := hcut
   cases kq with
   | zero => exact absurd HA.out (by simp [laws_FnExactTurnJumps.j0])
   | succ kj10 =>
    have H := HA.out
    clear HA
    simp only [laws_FnExactTurnJumps.j0] at H
    by_cases c55 : x40_10 = true
    ·subst c55
     have H1 : (some false) = some r := by rw [if_pos rfl] at H; exact H
     clear H
     have H := H1
     clear H1
     obtain rfl := Option.some.inj H
     go_wp2
     go_ret
     exact ⟨by first | rfl | (simp [errW_none, errW_some] <;> rfl) | (simp [*, errW_none, errW_some] <;> rfl), by exact belS⟩
    ·replace c55 := Bool.eq_false_iff.mpr c55
     subst c55
     have H1 : ((laws_toBoard.f kj10 a0_0 a0_1 a0_2 l0_3).bind fun btC9 => ((laws_eqBoard.f kj10 tBT tBU tBV tBW btC9.1 btC9.2.1 btC9.2.2.1 btC9.2.2.2).bind fun tCf => (if tCf = true then ((laws_markBoard.f kj10 tBT tBU tBV tBW 1).bind fun btCg => (if btCg.1 < 0 then (laws_FnExactTurnJumps.j1 kj10 tBR true a0_0 a0_1 a0_2 l0_3 tBL tBM tBN tBO tC0 tC1 tC2 tC3) else ((laws_eqBoard.f kj10 tC0 tC1 tC2 tC3 tBL tBM tBN tBO).bind fun tCi => (if tCi = true then (laws_FnExactTurnJumps.j1 kj10 tBR (tC6 != tBR) a0_0 a0_1 a0_2 l0_3 tBL tBM tBN tBO tC0 tC1 tC2 tC3) else (laws_FnExactTurnJumps.j1 kj10 tBR true a0_0 a0_1 a0_2 l0_3 tBL tBM tBN tBO tC0 tC1 tC2 tC3))))) else (some false)))) = some r := by rw [if_neg (show ¬ (false = true) by decide)] at H; exact H
     clear H
     have H := H1
     clear H1
     replace H := Option.bind_eq_some_iff.mp H
     obtain ⟨⟨tC9, tCa, tCb, tCc⟩, A560, H⟩ := H
     replace H : ((laws_eqBoard.f kj10 tBT tBU tBV tBW tC9 tCa tCb tCc).bind fun tCf => (if tCf = true then ((laws_markBoard.f kj10 tBT tBU tBV tBW 1).bind fun btCg => (if btCg.1 < 0 then (laws_FnExactTurnJumps.j1 kj10 tBR true a0_0 a0_1 a0_2 l0_3 tBL tBM tBN tBO tC0 tC1 tC2 tC3) else ((laws_eqBoard.f kj10 tC0 tC1 tC2 tC3 tBL tBM tBN tBO).bind fun tCi => (if tCi = true then (laws_FnExactTurnJumps.j1 kj10 tBR (tC6 != tBR) a0_0 a0_1 a0_2 l0_3 tBL tBM tBN tBO tC0 tC1 tC2 tC3) else (laws_FnExactTurnJumps.j1 kj10 tBR true a0_0 a0_1 a0_2 l0_3 tBL tBM tBN tBO tC0 tC1 tC2 tC3))))) else (some false))) = some r := H
     have A56 := Aside0.mk A560
     clear A560
     replace H := Option.bind_eq_some_iff.mp H
     obtain ⟨tCf, A570, H⟩ := H
     replace H : (if tCf = true then ((laws_markBoard.f kj10 tBT tBU tBV tBW 1).bind fun btCg => (if btCg.1 < 0 then (laws_FnExactTurnJumps.j1 kj10 tBR true a0_0 a0_1 a0_2 l0_3 tBL tBM tBN tBO tC0 tC1 tC2 tC3) else ((laws_eqBoard.f kj10 tC0 tC1 tC2 tC3 tBL tBM tBN tBO).bind fun tCi => (if tCi = true then (laws_FnExactTurnJumps.j1 kj10 tBR (tC6 != tBR) a0_0 a0_1 a0_2 l0_3 tBL tBM tBN tBO tC0 tC1 tC2 tC3) else (laws_FnExactTurnJumps.j1 kj10 tBR true a0_0 a0_1 a0_2 l0_3 tBL tBM tBN tBO tC0 tC1 tC2 tC3))))) else (some false)) = some r := H
     have A57 := Aside0.mk A570
     clear A570
     by_cases c58 : tCf = true
     ·subst c58
      have H1 : ((laws_markBoard.f kj10 tBT tBU tBV tBW 1).bind fun btCg => (if btCg.1 < 0 then (laws_FnExactTurnJumps.j1 kj10 tBR true a0_0 a0_1 a0_2 l0_3 tBL tBM tBN tBO tC0 tC1 tC2 tC3) else ((laws_eqBoard.f kj10 tC0 tC1 tC2 tC3 tBL tBM tBN tBO).bind fun tCi => (if tCi = true then (laws_FnExactTurnJumps.j1 kj10 tBR (tC6 != tBR) a0_0 a0_1 a0_2 l0_3 tBL tBM tBN tBO tC0 tC1 tC2 tC3) else (laws_FnExactTurnJumps.j1 kj10 tBR true a0_0 a0_1 a0_2 l0_3 tBL tBM tBN tBO tC0 tC1 tC2 tC3))))) = some r := by rw [if_pos rfl] at H; exact H
      clear H
      have H := H1
      clear H1
      replace H := Option.bind_eq_some_iff.mp H
      obtain ⟨⟨tCg, tCh⟩, A590, H⟩ := H
      replace H : (if tCg < 0 then (laws_FnExactTurnJumps.j1 kj10 tBR true a0_0 a0_1 a0_2 l0_3 tBL tBM tBN tBO tC0 tC1 tC2 tC3) else ((laws_eqBoard.f kj10 tC0 tC1 tC2 tC3 tBL tBM tBN tBO).bind fun tCi => (if tCi = true then (laws_FnExactTurnJumps.j1 kj10 tBR (tC6 != tBR) a0_0 a0_1 a0_2 l0_3 tBL tBM tBN tBO tC0 tC1 tC2 tC3) else (laws_FnExactTurnJumps.j1 kj10 tBR true a0_0 a0_1 a0_2 l0_3 tBL tBM tBN tBO tC0 tC1 tC2 tC3)))) = some r := H
      have A59 := Aside0.mk A590
      clear A590
      have HC60 := Aside0.mk H
      clear H
      try go_wp2
      have n0_ := Aside0.mk (Kd.R_drew HO_BT003.out)
      have n1_ := Aside0.mk (Kd.R_drew HO_C0003.out)
      have n2_ := Aside0.mk (Kd.R_drew HO_C8003.out)
      have n3_ := Aside0.mk (blk_drew BKBD.out)
      have n4_ := Aside0.mk (blk_drew BKBS.out)
      have n5_ := Aside0.mk (blk_drew BKBZ.out)
      have n6_ := Aside0.mk (blk_drew BKC7.out)
      have n7_ := Aside0.mk (below_drew1 HB.out)
      clear HO_BT003
      clear HO_C0003
      clear HO_C8003
      clear BKBD
      clear BKBS
      clear BKBZ
      clear BKC7
      clear HB
      have HO_BT003 := n0_
      have HO_C0003 := n1_
      have HO_C8003 := n2_
      have BKBD := n3_
      have BKBS := n4_
      have BKBZ := n5_
      have BKC7 := n6_
      have HB := n7_
      clear n0_ n1_ n2_ n3_ n4_ n5_ n6_ n7_
      refine start_ (n := 5) (S := fun w' => w'.cell? ⟨gbBZ, 0, none⟩ = some (.int .i64 tBT) ∧ w'.cell? ⟨gbBZ, 1, none⟩ = some (.int .i64 tBU) ∧ w'.cell? ⟨gbBZ, 2, none⟩ = some (.int .i64 tBV) ∧ w'.cell? ⟨gbBZ, 3, none⟩ = some (.slice Ao29 tBW.length co29) ∧ w'.cell? ⟨gbBD, 0, none⟩ = some (.int .i64 a0_0) ∧ w'.cell? ⟨gbBD, 1, none⟩ = some (.int .i64 a0_1) ∧ w'.cell? ⟨gbBD, 2, none⟩ = some (.int .i64 a0_2) ∧ w'.cell? ⟨gbBD, 3, none⟩ = some (.slice A0_3 l0_3.length c0_3)) (ds := []) #[false, false, false, false, false] (by kernel_rfl) rfl rfl ⟨(blk_cell BKBZ.out 0).trans rfl, (blk_cell BKBZ.out 1).trans rfl, (blk_cell BKBZ.out 2).trans rfl, (blk_cell BKBZ.out 3).trans rfl, (blk_cell BKBD.out 0).trans rfl, (blk_cell BKBD.out 1).trans rfl, (blk_cell BKBD.out 2).trans rfl, (blk_cell BKBD.out 3).trans rfl⟩ (fun hHeld => ?_)
      generalize wc.drew = w61 at HO_BT003 HO_C0003 HO_C8003 BKBD BKBS BKBZ BKC7 HB hHeld ⊢
      refine take_ (i := 0) (N := some 41) (v := ?_) (a' := ?_) #[true, false, false, false, false] rfl rfl (by kernel_rfl) (fun _ _ _ h => h) (Or.inl ⟨by rfl, ?_⟩) hHeld ?_ ?_
      rotate_left
      ·rintro w' ⟨s0, s1, s2, s3, s4, s5, s6, s7⟩
       go_simp
       with_reducible rfl
      rotate_left
      ·simp only [Act.put, List.setIfInBounds_toArray, List.set_cons_zero, List.set_cons_succ, i64_w, i32_w]
       rfl
      refine take_ (i := 1) (N := some 42) (v := ?_) (a' := ?_) #[true, true, false, false, false] rfl rfl (by kernel_rfl) (fun _ _ _ h => h) (Or.inl ⟨by rfl, ?_⟩) hHeld ?_ ?_
      rotate_left
      ·rintro w' ⟨s0, s1, s2, s3, s4, s5, s6, s7⟩
       go_simp
       with_reducible rfl
      rotate_left
      ·simp only [Act.put, List.setIfInBounds_toArray, List.set_cons_zero, List.set_cons_succ, i64_w, i32_w]
       rfl
      refine one_ (i := 2) (N := some 43) #[true, true, true, false, false] rfl rfl (by kernel_rfl) (by decide) (fun K hK => ?_)
      refine goes_ Try.func39 (by kernel_rfl) rfl #[.agg #[.int .i64 a0_0, .int .i64 a0_1, .int .i64 a0_2, .slice A0_3 l0_3.length c0_3]] (by rfl) rfl rfl argS ?_
      with_reducible refine (laws_toBoard.calls kj10 a0_0 a0_1 a0_2 _ _ l0_3 tC9 tCa tCb tCc _ ?side1 ?side2 A56.out).mono ?_
      (case side1 => exact Kd.C_up (Kd.C_below HR0_3.out HB.out))
      (case side2 => exact HC0_3.out)
      rintro e w62 ⟨vCd, rfl, ho0, hb⟩
      refine ⟨_, rfl, ?_⟩
      have n0_ := Aside0.mk (Kd.R_elder' (Kd.R_up HO_BT003.out) (Kd.R_base ho0) hb)
      have n1_ := Aside0.mk (Kd.R_elder' (Kd.R_up HO_C0003.out) (Kd.R_base ho0) hb)
      have n2_ := Aside0.mk (Kd.R_elder' (Kd.R_up HO_C8003.out) (Kd.R_base ho0) hb)
      have n3_ := Aside0.mk (Kd.R_lower (Kd.R_new' (Kd.R_new' (Kd.R_new' ho0 (Kd.R_lt (Kd.R_up HO_BT003.out))) (Kd.R_lt (Kd.R_up HO_C0003.out))) (Kd.R_lt (Kd.R_up HO_C8003.out))) (below_size belS))
      have n4_ := Aside0.mk (blk_below (blk_up BKBD.out) hb)
      have n5_ := Aside0.mk (blk_below (blk_up BKBS.out) hb)
      have n6_ := Aside0.mk (blk_below (blk_up BKBZ.out) hb)
      have n7_ := Aside0.mk (blk_below (blk_up BKC7.out) hb)
      have n8_ := Aside0.mk (below_step belS hb)
      clear HO_BT003
      clear HO_C0003
      clear HO_C8003
      clear BKBD
      clear BKBS
      clear BKBZ
      clear BKC7
      clear HB
      have HO_BT003 := n0_
      have HO_C0003 := n1_
      have HO_C8003 := n2_
      have HOCe := n3_
      have BKBD := n4_
      have BKBS := n5_
      have BKBZ := n6_
      have BKC7 := n7_
      have HB := n8_
      clear n0_ n1_ n2_ n3_ n4_ n5_ n6_ n7_ n8_
      (try clear hb)
      (try clear hb2)
      (try clear hk)
      (try clear hi)
      (try clear ho0)
      obtain ⟨Ao63, co63, eo63⟩ := Kd.R_slice HOCe.out
      (first | subst eo63 | (injection eo63 with f1_ f2_ f3_; have f4_ := f1_.symm; have f5_ := f3_.symm; clear f1_ f2_ f3_; subst f4_; subst f5_))
      refine hK.out _ _ ⟨(blk_cell BKBZ.out 0).trans rfl, (blk_cell BKBZ.out 1).trans rfl, (blk_cell BKBZ.out 2).trans rfl, (blk_cell BKBZ.out 3).trans rfl, (blk_cell BKBD.out 0).trans rfl, (blk_cell BKBD.out 1).trans rfl, (blk_cell BKBD.out 2).trans rfl, (blk_cell BKBD.out 3).trans rfl⟩ (fun hHeld => ?_)
      clear hK K
      refine norm_ (a' := ?_) ?_ ?_
      rotate_left
      ·show Act.put _ (some 43) _ = _
       simp only [Act.put, List.setIfInBounds_toArray, List.set_cons_zero, List.set_cons_succ, i64_w, i32_w]
       rfl
      refine one_ (i := 3) (N := some 44) #[true, true, true, true, false] rfl rfl (by kernel_rfl) (by decide) (fun K hK => ?_)
      refine goes_ Try.func42 (by kernel_rfl) rfl #[.agg #[.int .i64 tBT, .int .i64 tBU, .int .i64 tBV, .slice Ao29 tBW.length co29], .agg #[.int .i64 tC9, .int .i64 tCa, .int .i64 tCb, .slice Ao63 tCc.length co63]] (by rfl) rfl rfl argS ?_
      with_reducible refine (laws_eqBoard.calls kj10 tBT tBU tBV _ _ tBW tC9 tCa tCb _ _ tCc true _ ?side1 ?side2 ?side3 ?side4 A57.out).mono ?_
      (case side1 => exact Kd.C_up (Kd.R_reads' HO_C0003.out).2.2)
      (case side2 => exact (Kd.R_reads' HO_C0003.out).2.1)
      (case side3 => exact Kd.C_up (Kd.R_reads' HOCe.out).2.2)
      (case side4 => exact (Kd.R_reads' HOCe.out).2.1)
      rintro e w64 ⟨rfl, hb⟩
      refine ⟨_, rfl, ?_⟩
      have n0_ := Aside0.mk (Kd.R_below (Kd.R_up HO_BT003.out) hb)
      have n1_ := Aside0.mk (Kd.R_below (Kd.R_up HO_C0003.out) hb)
      have n2_ := Aside0.mk (Kd.R_below (Kd.R_up HO_C8003.out) hb)
      have n3_ := Aside0.mk (Kd.R_below (Kd.R_up HOCe.out) hb)
      have n4_ := Aside0.mk (blk_below (blk_up BKBD.out) hb)
      have n5_ := Aside0.mk (blk_below (blk_up BKBS.out) hb)
      have n6_ := Aside0.mk (blk_below (blk_up BKBZ.out) hb)
      have n7_ := Aside0.mk (blk_below (blk_up BKC7.out) hb)
      have n8_ := Aside0.mk (below_step belS hb)
      clear HO_BT003
      clear HO_C0003
      clear HO_C8003
      clear HOCe
      clear BKBD
      clear BKBS
      clear BKBZ
      clear BKC7
      clear HB
      have HO_BT003 := n0_
      have HO_C0003 := n1_
      have HO_C8003 := n2_
      have HOCe := n3_
      have BKBD := n4_
      have BKBS := n5_
      have BKBZ := n6_
      have BKC7 := n7_
      have HB := n8_
      clear n0_ n1_ n2_ n3_ n4_ n5_ n6_ n7_ n8_
      (try clear hb)
      (try clear hb2)
      (try clear hk)
      (try clear hi)
      refine hK.out _ _ ⟨(blk_cell BKBZ.out 0).trans rfl, (blk_cell BKBZ.out 1).trans rfl, (blk_cell BKBZ.out 2).trans rfl, (blk_cell BKBZ.out 3).trans rfl, (blk_cell BKBD.out 0).trans rfl, (blk_cell BKBD.out 1).trans rfl, (blk_cell BKBD.out 2).trans rfl, (blk_cell BKBD.out 3).trans rfl⟩ (fun hHeld => ?_)
      clear hK K
      refine norm_ (a' := ?_) ?_ ?_
      rotate_left
      ·show Act.put _ (some 44) _ = _
       simp only [Act.put, List.setIfInBounds_toArray, List.set_cons_zero, List.set_cons_succ, i64_w, i32_w]
       rfl
      refine pure_ (i := 4) (N := some 45) (v := ?_) (a' := ?_) #[true, true, true, true, true] rfl rfl (by kernel_rfl) (fun _ _ _ h => h) (Or.inl ⟨by rfl, ?_⟩) ?_ ?_
      rotate_left
      ·intro w'
       go_simp
       with_reducible rfl
      rotate_left
      ·simp only [Act.put, List.setIfInBounds_toArray, List.set_cons_zero, List.set_cons_succ, i64_w, i32_w]
       rfl
      refine done_ (by kernel_rfl) ?_
      have hnb65 := NBBZ_BD.out
      have hnc65 := NBBD_BZ.out
      have hnb66 := NBBZ_BS.out
      have hnc66 := NBBS_BZ.out
      have hnb67 := NBBZ_C7.out
      have hnc67 := NBC7_BZ.out
      obtain ⟨hcz68_0, hcz68_1, hcz68_2, hcz68_3, hfz68_0, hfz68_1, hfz68_2, hfz68_3⟩ := blk4 BKBZ.out
      go_upto_region 14 with (first | ((with_reducible refine gate_callee (f := 47) rfl ?_); refine goesL_ (some 48) rfl rfl Try.func47 (by kernel_rfl) rfl #[.agg #[.int .i64 tBT, .int .i64 tBU, .int .i64 tBV, .slice Ao29 tBW.length co29], .int .i64 1] rfl argS ?_; (with_reducible refine (laws_markBoard.calls kj10 tBT tBU tBV (fun k_ => some k_ = (.slice Ao29 tBW.length co29 : Value).ownBlock) (.slice Ao29 tBW.length co29) tBW 1 tCg tCh w _ ?side1 ?side2 A59.out).mono ?_); (case side1 => exact belS); (case side2 => exact Kd.R_tight rfl HO_C0003.out); rintro e w69 ⟨rfl, hy0, hb, hkp⟩; refine ⟨_, rfl, ?_⟩; have n0_ := Aside0.mk (Kd.R_mono (ok' := fun k_ => some k_ ≠ (.slice Ao29 tBW.length co29 : Value).ownBlock ∧ some k_ ≠ (.slice Ao36 tC3.length co36 : Value).ownBlock ∧ some k_ ≠ (.slice Ao63 tCc.length co63 : Value).ownBlock) (Kd.R_keptB (HO_BT003.out) hkp (fun k_ hk_ hs_ => (hk_.1.1) hs_)) (fun k_ hk_ => ⟨hk_.1.1.1, hk_.1.1.2, hk_.1.2⟩)); have n1_ := Aside0.mk (Kd.R_reok rfl hy0 (fun k_ e_ => HO_C0003.out.1 k_ e_)); have n2_ := Aside0.mk (Kd.R_mono (ok' := fun k_ => some k_ ≠ (.slice Ao22 tBO.length co22 : Value).ownBlock ∧ some k_ ≠ (.slice Ao29 tBW.length co29 : Value).ownBlock ∧ some k_ ≠ (.slice Ao63 tCc.length co63 : Value).ownBlock) (Kd.R_keptB (HO_C8003.out) hkp (fun k_ hk_ hs_ => (hk_.1.2) hs_)) (fun k_ hk_ => ⟨hk_.1.1.1, hk_.1.1.2, hk_.1.2⟩)); have n3_ := Aside0.mk (blk_kept (blk_up BKBD.out) hkp (fun hs_ => (fun e_ => (Kd.R_ne HO_C0003.out BKBD.out (by decide)) e_) hs_)); have n4_ := Aside0.mk (blk_kept (blk_up BKBS.out) hkp (fun hs_ => (fun e_ => (Kd.R_ne HO_C0003.out BKBS.out (by decide)) e_) hs_)); have n5_ := Aside0.mk (blk_kept (blk_up BKBZ.out) hkp (fun hs_ => (fun e_ => (Kd.R_ne HO_C0003.out BKBZ.out (by decide)) e_) hs_)); have n6_ := Aside0.mk (blk_kept (blk_up BKC7.out) hkp (fun hs_ => (fun e_ => (Kd.R_ne HO_C0003.out BKC7.out (by decide)) e_) hs_)); have n7_ := Aside0.mk (Kd.R_mono (ok' := fun k_ => some k_ ≠ (.slice Ao22 tBO.length co22 : Value).ownBlock ∧ some k_ ≠ (.slice Ao29 tBW.length co29 : Value).ownBlock ∧ some k_ ≠ (.slice Ao36 tC3.length co36 : Value).ownBlock) (Kd.R_keptB (HOCe.out) hkp (fun k_ hk_ hs_ => (hk_.1.2) hs_)) (fun k_ hk_ => ⟨hk_.1.1.1.2, hk_.1.1.2, hk_.1.2⟩)); have n8_ := Aside0.mk (hb); clear HO_BT003; clear HO_C0003; clear HO_C8003; clear BKBD; clear BKBS; clear BKBZ; clear BKC7; clear HOCe; clear HB; have HO_BT003 := n0_; have HO_C0003 := n1_; have HO_C8003 := n2_; have BKBD := n3_; have BKBS := n4_; have BKBZ := n5_; have BKC7 := n6_; have HOCe := n7_; have HB := n8_; clear n0_ n1_ n2_ n3_ n4_ n5_ n6_ n7_ n8_; (try clear hb); (try clear hkp); (try clear hy0)))
      (try simp only [Act.put, List.setIfInBounds_toArray, List.set_cons_zero, List.set_cons_succ])
      go_cut [61] (fun v61 wc => ∃ (kq : Nat) (x61_59 : Bool), v61 = .bool x61_59 ∧ Aside0 (laws_FnExactTurnJumps.j1 kq tBR x61_59 a0_0 a0_1 a0_2 l0_3 tBL tBM tBN tBO tC0 tC1 tC2 tC3 = some r) ∧ Aside0 (kq ≤ kj10) ∧ Aside0 (Kd.R k27 27 wc w.heap.size (fun k_ => some k_ ≠ ((.slice Ao29 tBW.length co29) : Value).ownBlock ∧ some k_ ≠ ((.slice Ao36 tC3.length co36) : Value).ownBlock) (.slice Ao22 tBO.length co22) tBO) ∧ Aside0 (Kd.R k27 27 wc w.heap.size (fun k_ => some k_ ≠ ((.slice Ao22 tBO.length co22) : Value).ownBlock ∧ some k_ ≠ ((.slice Ao36 tC3.length co36) : Value).ownBlock) (.slice Ao29 tBW.length co29) tCh) ∧ Aside0 (Kd.R k27 27 wc w.heap.size (fun k_ => some k_ ≠ ((.slice Ao22 tBO.length co22) : Value).ownBlock ∧ some k_ ≠ ((.slice Ao29 tBW.length co29) : Value).ownBlock) (.slice Ao36 tC3.length co36) tC3) ∧ Aside0 (wc.heap[gbBD]? = some (.cells #[.int .i64 a0_0, .int .i64 a0_1, .int .i64 a0_2, (.slice A0_3 l0_3.length c0_3)] 24 (0, 0))) ∧ Aside0 (wc.heap[gbBS]? = some (.cells #[.int .i64 tBL, .int .i64 tBM, .int .i64 tBN, (.slice Ao22 tBO.length co22)] 32 (0, 0))) ∧ Aside0 (wc.heap[gbBZ]? = some (.cells #[.int .i64 tBT, .int .i64 tBU, .int .i64 tBV, (.slice Ao29 tBW.length co29)] 32 (0, 0))) ∧ Aside0 (wc.heap[gbC7]? = some (.cells #[.int .i64 tC0, .int .i64 tC1, .int .i64 tC2, (.slice Ao36 tC3.length co36)] 32 (0, 0))) ∧ Aside0 (Below w.heap.size w wc))
      case first =>
       have H := HC60.out
       clear HC60
       by_cases c70 : tCg < 0
       ·rw [if_pos c70] at H
        have c70b0 : decide (tCg < 0) = true := decide_eq_true c70
        clear c70
        (first | rw [c70b0] | (simp only [i64_w, i32_w]; rw [c70b0]) | skip)
        have H' := Aside0.mk H
        clear H
        go_wp2
        go_meet
        case rel => exact ⟨_, (true), (by first | rfl | (simp; done) | (simp [*]; done)), H', ⟨by have := HJ10.out; first | omega | exact Nat.le_refl _⟩, ⟨by (with_reducible repeat (first | apply Kd.R_alloc | apply Kd.R_drewN | apply Kd.R_drew)); exact Kd.R_mono HO_BT003.out (fun _ hk => ⟨hk.1, hk.2.1⟩)⟩, ⟨by (with_reducible repeat (first | apply Kd.R_alloc | apply Kd.R_drewN | apply Kd.R_drew)); exact Kd.R_mono HO_C0003.out (fun _ hk => ⟨hk.1.1, hk.1.2⟩)⟩, ⟨by (with_reducible repeat (first | apply Kd.R_alloc | apply Kd.R_drewN | apply Kd.R_drew)); exact Kd.R_mono HO_C8003.out (fun _ hk => ⟨hk.1, hk.2.1⟩)⟩, ⟨by (with_reducible repeat (first | refine blk_drewN ?_ _ | refine blk_drew ?_ | refine blk_alloc ?_ _)); exact BKBD.out⟩, ⟨by (with_reducible repeat (first | refine blk_drewN ?_ _ | refine blk_drew ?_ | refine blk_alloc ?_ _)); exact BKBS.out⟩, ⟨by (with_reducible repeat (first | refine blk_drewN ?_ _ | refine blk_drew ?_ | refine blk_alloc ?_ _)); exact BKBZ.out⟩, ⟨by (with_reducible repeat (first | refine blk_drewN ?_ _ | refine blk_drew ?_ | refine blk_alloc ?_ _)); exact BKC7.out⟩, ⟨by exact belS⟩⟩
       ·rw [if_neg c70] at H
        have c70b0 : decide (tCg < 0) = false := decide_eq_false c70
        clear c70
        (first | rw [c70b0] | (simp only [i64_w, i32_w]; rw [c70b0]) | skip)
        replace H := Option.bind_eq_some_iff.mp H
        obtain ⟨tCi, A710, H⟩ := H
        replace H : (if tCi = true then (laws_FnExactTurnJumps.j1 kj10 tBR (tC6 != tBR) a0_0 a0_1 a0_2 l0_3 tBL tBM tBN tBO tC0 tC1 tC2 tC3) else (laws_FnExactTurnJumps.j1 kj10 tBR true a0_0 a0_1 a0_2 l0_3 tBL tBM tBN tBO tC0 tC1 tC2 tC3)) = some r := H
        have A71 := Aside0.mk A710
        clear A710
        by_cases c72 : tCi = true
        ·subst c72
         have H1 : (laws_FnExactTurnJumps.j1 kj10 tBR (tC6 != tBR) a0_0 a0_1 a0_2 l0_3 tBL tBM tBN tBO tC0 tC1 tC2 tC3) = some r := by rw [if_pos rfl] at H; exact H
         clear H
         have H := H1
         clear H1
         have H' := Aside0.mk H
         clear H
         have hnb73 := NBC7_BD.out
         have hnc73 := NBBD_C7.out
         have hnb74 := NBC7_BS.out
         have hnc74 := NBBS_C7.out
         have hnb75 := NBC7_BZ.out
         have hnc75 := NBBZ_C7.out
         obtain ⟨hcz76_0, hcz76_1, hcz76_2, hcz76_3, hfz76_0, hfz76_1, hfz76_2, hfz76_3⟩ := blk4 BKC7.out
         have hnb77 := NBBS_BD.out
         have hnc77 := NBBD_BS.out
         have hnb78 := NBBS_BZ.out
         have hnc78 := NBBZ_BS.out
         obtain ⟨hcz79_0, hcz79_1, hcz79_2, hcz79_3, hfz79_0, hfz79_1, hfz79_2, hfz79_3⟩ := blk4 BKBS.out
         go_wp2_with (first | (go_at_call 42; (with_reducible refine (laws_eqBoard.calls kj10 tC0 tC1 tC2 _ _ tC3 tBL tBM tBN _ _ tBO true _ ?side1 ?side2 ?side3 ?side4 A71.out).mono ?_); (case side1 => exact Kd.C_up (Kd.R_reads' HO_C8003.out).2.2); (case side2 => exact (Kd.R_reads' HO_C8003.out).2.1); (case side3 => exact Kd.C_up (Kd.R_reads' HO_BT003.out).2.2); (case side4 => exact (Kd.R_reads' HO_BT003.out).2.1); rintro e w80 ⟨rfl, hb⟩; have n0_ := Aside0.mk (Kd.R_below (Kd.R_up HO_BT003.out) hb); have n1_ := Aside0.mk (Kd.R_below (Kd.R_up HO_C0003.out) hb); have n2_ := Aside0.mk (Kd.R_below (Kd.R_up HO_C8003.out) hb); have n3_ := Aside0.mk (Kd.R_below (Kd.R_up HOCe.out) hb); have n4_ := Aside0.mk (blk_below (blk_up BKBD.out) hb); have n5_ := Aside0.mk (blk_below (blk_up BKBS.out) hb); have n6_ := Aside0.mk (blk_below (blk_up BKBZ.out) hb); have n7_ := Aside0.mk (blk_below (blk_up BKC7.out) hb); have n8_ := Aside0.mk (below_step belS hb); clear HO_BT003; clear HO_C0003; clear HO_C8003; clear HOCe; clear BKBD; clear BKBS; clear BKBZ; clear BKC7; clear HB; have HO_BT003 := n0_; have HO_C0003 := n1_; have HO_C8003 := n2_; have HOCe := n3_; have BKBD := n4_; have BKBS := n5_; have BKBZ := n6_; have BKC7 := n7_; have HB := n8_; clear n0_ n1_ n2_ n3_ n4_ n5_ n6_ n7_ n8_; (try clear hb); (try clear hb2); (try clear hk); (try clear hi)))
         go_meet
         case rel => exact ⟨_, ((tC6 != tBR)), (by first | rfl | (simp; done) | (simp [*]; done)), H', ⟨by have := HJ10.out; first | omega | exact Nat.le_refl _⟩, ⟨by (with_reducible repeat (first | apply Kd.R_alloc | apply Kd.R_drewN | apply Kd.R_drew)); exact Kd.R_mono HO_BT003.out (fun _ hk => ⟨hk.1, hk.2.1⟩)⟩, ⟨by (with_reducible repeat (first | apply Kd.R_alloc | apply Kd.R_drewN | apply Kd.R_drew)); exact Kd.R_mono HO_C0003.out (fun _ hk => ⟨hk.1.1, hk.1.2⟩)⟩, ⟨by (with_reducible repeat (first | apply Kd.R_alloc | apply Kd.R_drewN | apply Kd.R_drew)); exact Kd.R_mono HO_C8003.out (fun _ hk => ⟨hk.1, hk.2.1⟩)⟩, ⟨by (with_reducible repeat (first | refine blk_drewN ?_ _ | refine blk_drew ?_ | refine blk_alloc ?_ _)); exact BKBD.out⟩, ⟨by (with_reducible repeat (first | refine blk_drewN ?_ _ | refine blk_drew ?_ | refine blk_alloc ?_ _)); exact BKBS.out⟩, ⟨by (with_reducible repeat (first | refine blk_drewN ?_ _ | refine blk_drew ?_ | refine blk_alloc ?_ _)); exact BKBZ.out⟩, ⟨by (with_reducible repeat (first | refine blk_drewN ?_ _ | refine blk_drew ?_ | refine blk_alloc ?_ _)); exact BKC7.out⟩, ⟨by exact belS⟩⟩
        ·replace c72 := Bool.eq_false_iff.mpr c72
         subst c72
         have H1 : (laws_FnExactTurnJumps.j1 kj10 tBR true a0_0 a0_1 a0_2 l0_3 tBL tBM tBN tBO tC0 tC1 tC2 tC3) = some r := by rw [if_neg (show ¬ (false = true) by decide)] at H; exact H
         clear H
         have H := H1
         clear H1
         have H' := Aside0.mk H
         clear H
         have hnb81 := NBC7_BD.out
         have hnc81 := NBBD_C7.out
         have hnb82 := NBC7_BS.out
         have hnc82 := NBBS_C7.out
         have hnb83 := NBC7_BZ.out
         have hnc83 := NBBZ_C7.out
         obtain ⟨hcz84_0, hcz84_1, hcz84_2, hcz84_3, hfz84_0, hfz84_1, hfz84_2, hfz84_3⟩ := blk4 BKC7.out
         have hnb85 := NBBS_BD.out
         have hnc85 := NBBD_BS.out
         have hnb86 := NBBS_BZ.out
         have hnc86 := NBBZ_BS.out
         obtain ⟨hcz87_0, hcz87_1, hcz87_2, hcz87_3, hfz87_0, hfz87_1, hfz87_2, hfz87_3⟩ := blk4 BKBS.out
         go_wp2_with (first | (go_at_call 42; (with_reducible refine (laws_eqBoard.calls kj10 tC0 tC1 tC2 _ _ tC3 tBL tBM tBN _ _ tBO false _ ?side1 ?side2 ?side3 ?side4 A71.out).mono ?_); (case side1 => exact Kd.C_up (Kd.R_reads' HO_C8003.out).2.2); (case side2 => exact (Kd.R_reads' HO_C8003.out).2.1); (case side3 => exact Kd.C_up (Kd.R_reads' HO_BT003.out).2.2); (case side4 => exact (Kd.R_reads' HO_BT003.out).2.1); rintro e w88 ⟨rfl, hb⟩; have n0_ := Aside0.mk (Kd.R_below (Kd.R_up HO_BT003.out) hb); have n1_ := Aside0.mk (Kd.R_below (Kd.R_up HO_C0003.out) hb); have n2_ := Aside0.mk (Kd.R_below (Kd.R_up HO_C8003.out) hb); have n3_ := Aside0.mk (Kd.R_below (Kd.R_up HOCe.out) hb); have n4_ := Aside0.mk (blk_below (blk_up BKBD.out) hb); have n5_ := Aside0.mk (blk_below (blk_up BKBS.out) hb); have n6_ := Aside0.mk (blk_below (blk_up BKBZ.out) hb); have n7_ := Aside0.mk (blk_below (blk_up BKC7.out) hb); have n8_ := Aside0.mk (below_step belS hb); clear HO_BT003; clear HO_C0003; clear HO_C8003; clear HOCe; clear BKBD; clear BKBS; clear BKBZ; clear BKC7; clear HB; have HO_BT003 := n0_; have HO_C0003 := n1_; have HO_C8003 := n2_; have HOCe := n3_; have BKBD := n4_; have BKBS := n5_; have BKBZ := n6_; have BKC7 := n7_; have HB := n8_; clear n0_ n1_ n2_ n3_ n4_ n5_ n6_ n7_ n8_; (try clear hb); (try clear hb2); (try clear hk); (try clear hi)))
         go_meet
         case rel => exact ⟨_, (true), (by first | rfl | (simp; done) | (simp [*]; done)), H', ⟨by have := HJ10.out; first | omega | exact Nat.le_refl _⟩, ⟨by (with_reducible repeat (first | apply Kd.R_alloc | apply Kd.R_drewN | apply Kd.R_drew)); exact Kd.R_mono HO_BT003.out (fun _ hk => ⟨hk.1, hk.2.1⟩)⟩, ⟨by (with_reducible repeat (first | apply Kd.R_alloc | apply Kd.R_drewN | apply Kd.R_drew)); exact Kd.R_mono HO_C0003.out (fun _ hk => ⟨hk.1.1, hk.1.2⟩)⟩, ⟨by (with_reducible repeat (first | apply Kd.R_alloc | apply Kd.R_drewN | apply Kd.R_drew)); exact Kd.R_mono HO_C8003.out (fun _ hk => ⟨hk.1, hk.2.1⟩)⟩, ⟨by (with_reducible repeat (first | refine blk_drewN ?_ _ | refine blk_drew ?_ | refine blk_alloc ?_ _)); exact BKBD.out⟩, ⟨by (with_reducible repeat (first | refine blk_drewN ?_ _ | refine blk_drew ?_ | refine blk_alloc ?_ _)); exact BKBS.out⟩, ⟨by (with_reducible repeat (first | refine blk_drewN ?_ _ | refine blk_drew ?_ | refine blk_alloc ?_ _)); exact BKBZ.out⟩, ⟨by (with_reducible repeat (first | refine blk_drewN ?_ _ | refine blk_drew ?_ | refine blk_alloc ?_ _)); exact BKC7.out⟩, ⟨by exact belS⟩⟩
      case rest =>
       clear HC60
       try clear c1
       try clear c2
       try clear p2
       try clear c3
       try clear c3b0
       try clear c4
       try clear c5
       try clear c6
       try clear c7
       try clear c8
       try clear c10
       try clear c20
       try clear c26
       try clear c27
       try clear c32
       try clear c33
       try clear c34
       try clear c37
       try clear c38
       try clear c39
       try clear c40
       try clear c41
       try clear c42
       try clear c43
       try clear c44
       try clear c47
       try clear c48
       try clear c49
       try clear c51
       try clear c52
       try clear c55
       try clear c58
       try clear c65
       try clear c66
       try clear c67
       try clear c70
       try clear c70b0
       try clear c72
       try clear c73
       try clear c74
       try clear c75
       try clear c77
       try clear c78
       try clear c81
       try clear c82
       try clear c83
       try clear c85
       try clear c86
       try clear hcz13_0 hcz13_1 hcz13_2 hcz13_3
       try clear hcz15_0 hcz15_1 hcz15_2 hcz15_3
       try clear hcz21_0 hcz21_1 hcz21_2 hcz21_3
       try clear hcz23_0 hcz23_1 hcz23_2 hcz23_3
       try clear hcz28_0 hcz28_1 hcz28_2 hcz28_3
       try clear hcz35_0 hcz35_1 hcz35_2 hcz35_3
       try clear hcz42_0 hcz42_1 hcz42_2 hcz42_3
       try clear hcz45_0 hcz45_1 hcz45_2 hcz45_3
       try clear hcz50_0 hcz50_1 hcz50_2 hcz50_3
       try clear hcz53_0 hcz53_1 hcz53_2 hcz53_3
       try clear hcz5_0 hcz5_1 hcz5_2 hcz5_3
       try clear hcz68_0 hcz68_1 hcz68_2 hcz68_3
       try clear hcz76_0 hcz76_1 hcz76_2 hcz76_3
       try clear hcz79_0 hcz79_1 hcz79_2 hcz79_3
       try clear hcz84_0 hcz84_1 hcz84_2 hcz84_3
       try clear hcz87_0 hcz87_1 hcz87_2 hcz87_3
       try clear hfz13_0 hfz13_1 hfz13_2 hfz13_3
       try clear hfz15_0 hfz15_1 hfz15_2 hfz15_3
       try clear hfz21_0 hfz21_1 hfz21_2 hfz21_3
       try clear hfz23_0 hfz23_1 hfz23_2 hfz23_3
       try clear hfz28_0 hfz28_1 hfz28_2 hfz28_3
       try clear hfz35_0 hfz35_1 hfz35_2 hfz35_3
       try clear hfz42_0 hfz42_1 hfz42_2 hfz42_3
       try clear hfz45_0 hfz45_1 hfz45_2 hfz45_3
       try clear hfz50_0 hfz50_1 hfz50_2 hfz50_3
       try clear hfz53_0 hfz53_1 hfz53_2 hfz53_3
       try clear hfz5_0 hfz5_1 hfz5_2 hfz5_3
       try clear hfz68_0 hfz68_1 hfz68_2 hfz68_3
       try clear hfz76_0 hfz76_1 hfz76_2 hfz76_3
       try clear hfz79_0 hfz79_1 hfz79_2 hfz79_3
       try clear hfz84_0 hfz84_1 hfz84_2 hfz84_3
       try clear hfz87_0 hfz87_1 hfz87_2 hfz87_3
       try clear p2
       obtain ⟨kq, x61_59, rfl, HA, HJ59, HO_BT003, HO_C0003, HO_C8003, BKBD, BKBS, BKBZ, BKC7, HB⟩ := hcut
       have hlC0003_59 := (Kd.R_reads' HO_C0003.out).1
       rw [hlC0003_59] at HO_C0003
       (try simp only [hlC0003_59])
       (try simp only [hlC0003_59] at BKBD)
       (try simp only [hlC0003_59] at BKBS)
       (try simp only [hlC0003_59] at BKBZ)
       (try simp only [hlC0003_59] at BKC7)
       (try simp only [hlC0003_59] at HO_BT003)
       (try simp only [hlC0003_59] at HO_C8003)
       cases kq with
       | zero => exact absurd HA.out (by simp [laws_FnExactTurnJumps.j1])
       | succ kj59 =>
        have H := HA.out
        clear HA
        simp only [laws_FnExactTurnJumps.j1] at H
        by_cases c89 : x61_59 = true
        ·subst c89
         have H1 : (some false) = some r := by rw [if_pos rfl] at H; exact H
         clear H
         have H := H1
         clear H1
         obtain rfl := Option.some.inj H
         go_wp2
         go_ret
         exact ⟨by first | rfl | (simp [errW_none, errW_some] <;> rfl) | (simp [*, errW_none, errW_some] <;> rfl), by exact belS⟩
        ·replace c89 := Bool.eq_false_iff.mpr c89
         subst c89
         have H1 : ((laws_markBoard.f kj59 tC0 tC1 tC2 tC3 1).bind fun btCj => ((laws_heldBoard.f kj59 tC0 tC1 tC2 btCj.2 1).bind fun tCl => (if tCl < 0 then (some false) else (if tCl = btCj.1 then ((laws_toBoard.f kj59 a0_0 a0_1 a0_2 l0_3).bind fun btCm => ((impl_TurnJumps.f kj59 btCm.1 btCm.2.1 btCm.2.2.1 btCm.2.2.2).bind fun btCs => ((laws_eqBoard.f kj59 btCs.1 btCs.2.1 btCs.2.2.1 btCs.2.2.2.1 tBL tBM tBN tBO).bind fun tCA => (if tCA = true then (laws_FnExactTurnJumps.j2 kj59 btCj.1 (btCs.2.2.2.2 != tBR) tC0 tC1 tC2 btCj.2) else (laws_FnExactTurnJumps.j2 kj59 btCj.1 true tC0 tC1 tC2 btCj.2))))) else (some false))))) = some r := by rw [if_neg (show ¬ (false = true) by decide)] at H; exact H
         clear H
         have H := H1
         clear H1
         replace H := Option.bind_eq_some_iff.mp H
         obtain ⟨⟨tCj, tCk⟩, A900, H⟩ := H
         replace H : ((laws_heldBoard.f kj59 tC0 tC1 tC2 tCk 1).bind fun tCl => (if tCl < 0 then (some false) else (if tCl = tCj then ((laws_toBoard.f kj59 a0_0 a0_1 a0_2 l0_3).bind fun btCm => ((impl_TurnJumps.f kj59 btCm.1 btCm.2.1 btCm.2.2.1 btCm.2.2.2).bind fun btCs => ((laws_eqBoard.f kj59 btCs.1 btCs.2.1 btCs.2.2.1 btCs.2.2.2.1 tBL tBM tBN tBO).bind fun tCA => (if tCA = true then (laws_FnExactTurnJumps.j2 kj59 tCj (btCs.2.2.2.2 != tBR) tC0 tC1 tC2 tCk) else (laws_FnExactTurnJumps.j2 kj59 tCj true tC0 tC1 tC2 tCk))))) else (some false)))) = some r := H
         have A90 := Aside0.mk A900
         clear A900
         replace H := Option.bind_eq_some_iff.mp H
         obtain ⟨tCl, A910, H⟩ := H
         replace H : (if tCl < 0 then (some false) else (if tCl = tCj then ((laws_toBoard.f kj59 a0_0 a0_1 a0_2 l0_3).bind fun btCm => ((impl_TurnJumps.f kj59 btCm.1 btCm.2.1 btCm.2.2.1 btCm.2.2.2).bind fun btCs => ((laws_eqBoard.f kj59 btCs.1 btCs.2.1 btCs.2.2.1 btCs.2.2.2.1 tBL tBM tBN tBO).bind fun tCA => (if tCA = true then (laws_FnExactTurnJumps.j2 kj59 tCj (btCs.2.2.2.2 != tBR) tC0 tC1 tC2 tCk) else (laws_FnExactTurnJumps.j2 kj59 tCj true tC0 tC1 tC2 tCk))))) else (some false))) = some r := H
         have A91 := Aside0.mk A910
         clear A910
         by_cases c92 : tCl < 0
         ·rw [if_pos c92] at H
          have c92b0 : decide (tCl < 0) = true := decide_eq_true c92
          clear c92
          obtain rfl := Option.some.inj H
          have hnb93 := NBC7_BD.out
          have hnc93 := NBBD_C7.out
          have hnb94 := NBC7_BS.out
          have hnc94 := NBBS_C7.out
          have hnb95 := NBC7_BZ.out
          have hnc95 := NBBZ_C7.out
          obtain ⟨hcz96_0, hcz96_1, hcz96_2, hcz96_3, hfz96_0, hfz96_1, hfz96_2, hfz96_3⟩ := blk4 BKC7.out
          go_wp2_with (first | ((with_reducible refine gate_callee (f := 47) rfl ?_); refine goesL_ (some 64) rfl rfl Try.func47 (by kernel_rfl) rfl #[.agg #[.int .i64 tC0, .int .i64 tC1, .int .i64 tC2, .slice Ao36 tC3.length co36], .int .i64 1] rfl argS ?_; (with_reducible refine (laws_markBoard.calls kj59 tC0 tC1 tC2 (fun k_ => some k_ = (.slice Ao36 tC3.length co36 : Value).ownBlock) (.slice Ao36 tC3.length co36) tC3 1 tCj tCk w _ ?side1 ?side2 A90.out).mono ?_); (case side1 => exact belS); (case side2 => exact Kd.R_tight rfl HO_C8003.out); rintro e w97 ⟨rfl, hy0, hb, hkp⟩; refine ⟨_, rfl, ?_⟩; have n0_ := Aside0.mk (Kd.R_mono (ok' := fun k_ => some k_ ≠ (.slice Ao29 tCh.length co29 : Value).ownBlock ∧ some k_ ≠ (.slice Ao36 tC3.length co36 : Value).ownBlock) (Kd.R_keptB (HO_BT003.out) hkp (fun k_ hk_ hs_ => (hk_.2) hs_)) (fun k_ hk_ => ⟨hk_.1.1, hk_.1.2⟩)); have n1_ := Aside0.mk (Kd.R_mono (ok' := fun k_ => some k_ ≠ (.slice Ao22 tBO.length co22 : Value).ownBlock ∧ some k_ ≠ (.slice Ao36 tC3.length co36 : Value).ownBlock) (Kd.R_keptB (HO_C0003.out) hkp (fun k_ hk_ hs_ => (hk_.2) hs_)) (fun k_ hk_ => ⟨hk_.1.1, hk_.1.2⟩)); have n2_ := Aside0.mk (Kd.R_reok rfl hy0 (fun k_ e_ => HO_C8003.out.1 k_ e_)); have n3_ := Aside0.mk (blk_kept (blk_up BKBD.out) hkp (fun hs_ => (fun e_ => (Kd.R_ne HO_C8003.out BKBD.out (by decide)) e_) hs_)); have n4_ := Aside0.mk (blk_kept (blk_up BKBS.out) hkp (fun hs_ => (fun e_ => (Kd.R_ne HO_C8003.out BKBS.out (by decide)) e_) hs_)); have n5_ := Aside0.mk (blk_kept (blk_up BKBZ.out) hkp (fun hs_ => (fun e_ => (Kd.R_ne HO_C8003.out BKBZ.out (by decide)) e_) hs_)); have n6_ := Aside0.mk (blk_kept (blk_up BKC7.out) hkp (fun hs_ => (fun e_ => (Kd.R_ne HO_C8003.out BKC7.out (by decide)) e_) hs_)); have n7_ := Aside0.mk (hb); clear HO_BT003; clear HO_C0003; clear HO_C8003; clear BKBD; clear BKBS; clear BKBZ; clear BKC7; clear HB; have HO_BT003 := n0_; have HO_C0003 := n1_; have HO_C8003 := n2_; have BKBD := n3_; have BKBS := n4_; have BKBZ := n5_; have BKC7 := n6_; have HB := n7_; clear n0_ n1_ n2_ n3_ n4_ n5_ n6_ n7_; (try clear hb); (try clear hkp); (try clear hy0); obtain ⟨hcz98_0, hcz98_1, hcz98_2, hcz98_3, hfz98_0, hfz98_1, hfz98_2, hfz98_3⟩ := blk4 BKC7.out) | ((with_reducible refine gate_callee (f := 48) rfl ?_); refine goesL_ (some 67) rfl rfl Try.func48 (by kernel_rfl) rfl #[.agg #[.int .i64 tC0, .int .i64 tC1, .int .i64 tC2, .slice Ao36 tCk.length co36], .int .i64 1] rfl (by (try simp only [List.map_toArray, List.map_cons, List.map_nil]); first | done | (rw [show tCk.length = tC3.length from (Kd.R_reads' HO_C8003.out).1.symm] <;> rfl) | rfl | (simp only [List.length_drop, List.length_take]; rfl)) ?_; (with_reducible refine (laws_heldBoard.calls kj59 tC0 tC1 tC2 _ _ tCk 1 tCl _ ?side1 ?side2 A91.out).mono ?_); (case side1 => exact Kd.C_up (Kd.R_reads' HO_C8003.out).2.2); (case side2 => rw [show tCk.length = tC3.length from (Kd.R_reads' HO_C8003.out).1.symm]; exact (Kd.R_reads' HO_C8003.out).2.1); rintro e w99 ⟨rfl, hb⟩; refine ⟨_, rfl, ?_⟩; have n0_ := Aside0.mk (Kd.R_below (Kd.R_up HO_BT003.out) hb); have n1_ := Aside0.mk (Kd.R_below (Kd.R_up HO_C0003.out) hb); have n2_ := Aside0.mk (Kd.R_below (Kd.R_up HO_C8003.out) hb); have n3_ := Aside0.mk (blk_below (blk_up BKBD.out) hb); have n4_ := Aside0.mk (blk_below (blk_up BKBS.out) hb); have n5_ := Aside0.mk (blk_below (blk_up BKBZ.out) hb); have n6_ := Aside0.mk (blk_below (blk_up BKC7.out) hb); have n7_ := Aside0.mk (below_step belS hb); clear HO_BT003; clear HO_C0003; clear HO_C8003; clear BKBD; clear BKBS; clear BKBZ; clear BKC7; clear HB; have HO_BT003 := n0_; have HO_C0003 := n1_; have HO_C8003 := n2_; have BKBD := n3_; have BKBS := n4_; have BKBZ := n5_; have BKC7 := n6_; have HB := n7_; clear n0_ n1_ n2_ n3_ n4_ n5_ n6_ n7_; (try clear hb); (try clear hb2); (try clear hk); (try clear hi)))
          go_ret
          exact ⟨by first | rfl | (simp [errW_none, errW_some] <;> rfl) | (simp [*, errW_none, errW_some] <;> rfl), by exact belS⟩
         ·rw [if_neg c92] at H
          have c92b0 : decide (tCl < 0) = false := decide_eq_false c92
          clear c92
          by_cases c100 : tCl = tCj
          ·rw [if_pos c100] at H
           have c100b0 : (tCl == tCj) = true := beq_iff_eq.mpr c100
           have c100b1 : (tCl != tCj) = false := bne_eq_false_iff_eq.mpr c100
           clear c100
           replace H := Option.bind_eq_some_iff.mp H
           obtain ⟨⟨tCm, tCn, tCo, tCp⟩, A1010, H⟩ := H
           replace H : ((impl_TurnJumps.f kj59 tCm tCn tCo tCp).bind fun btCs => ((laws_eqBoard.f kj59 btCs.1 btCs.2.1 btCs.2.2.1 btCs.2.2.2.1 tBL tBM tBN tBO).bind fun tCA => (if tCA = true then (laws_FnExactTurnJumps.j2 kj59 tCj (btCs.2.2.2.2 != tBR) tC0 tC1 tC2 tCk) else (laws_FnExactTurnJumps.j2 kj59 tCj true tC0 tC1 tC2 tCk)))) = some r := H
           have A101 := Aside0.mk A1010
           clear A1010
           replace H := Option.bind_eq_some_iff.mp H
           obtain ⟨⟨tCs, tCt, tCu, tCv, tCy⟩, A1020, H⟩ := H
           replace H : ((laws_eqBoard.f kj59 tCs tCt tCu tCv tBL tBM tBN tBO).bind fun tCA => (if tCA = true then (laws_FnExactTurnJumps.j2 kj59 tCj (tCy != tBR) tC0 tC1 tC2 tCk) else (laws_FnExactTurnJumps.j2 kj59 tCj true tC0 tC1 tC2 tCk))) = some r := H
           have A102 := Aside0.mk A1020
           clear A1020
           have HC103 := Aside0.mk H
           clear H
           have hnb104 := NBC7_BD.out
           have hnc104 := NBBD_C7.out
           have hnb105 := NBC7_BS.out
           have hnc105 := NBBS_C7.out
           have hnb106 := NBC7_BZ.out
           have hnc106 := NBBZ_C7.out
           obtain ⟨hcz107_0, hcz107_1, hcz107_2, hcz107_3, hfz107_0, hfz107_1, hfz107_2, hfz107_3⟩ := blk4 BKC7.out
           go_upto_region 25 with (first | ((with_reducible refine gate_callee (f := 47) rfl ?_); refine goesL_ (some 64) rfl rfl Try.func47 (by kernel_rfl) rfl #[.agg #[.int .i64 tC0, .int .i64 tC1, .int .i64 tC2, .slice Ao36 tC3.length co36], .int .i64 1] rfl argS ?_; (with_reducible refine (laws_markBoard.calls kj59 tC0 tC1 tC2 (fun k_ => some k_ = (.slice Ao36 tC3.length co36 : Value).ownBlock) (.slice Ao36 tC3.length co36) tC3 1 tCj tCk w _ ?side1 ?side2 A90.out).mono ?_); (case side1 => exact belS); (case side2 => exact Kd.R_tight rfl HO_C8003.out); rintro e w108 ⟨rfl, hy0, hb, hkp⟩; refine ⟨_, rfl, ?_⟩; have n0_ := Aside0.mk (Kd.R_mono (ok' := fun k_ => some k_ ≠ (.slice Ao29 tCh.length co29 : Value).ownBlock ∧ some k_ ≠ (.slice Ao36 tC3.length co36 : Value).ownBlock) (Kd.R_keptB (HO_BT003.out) hkp (fun k_ hk_ hs_ => (hk_.2) hs_)) (fun k_ hk_ => ⟨hk_.1.1, hk_.1.2⟩)); have n1_ := Aside0.mk (Kd.R_mono (ok' := fun k_ => some k_ ≠ (.slice Ao22 tBO.length co22 : Value).ownBlock ∧ some k_ ≠ (.slice Ao36 tC3.length co36 : Value).ownBlock) (Kd.R_keptB (HO_C0003.out) hkp (fun k_ hk_ hs_ => (hk_.2) hs_)) (fun k_ hk_ => ⟨hk_.1.1, hk_.1.2⟩)); have n2_ := Aside0.mk (Kd.R_reok rfl hy0 (fun k_ e_ => HO_C8003.out.1 k_ e_)); have n3_ := Aside0.mk (blk_kept (blk_up BKBD.out) hkp (fun hs_ => (fun e_ => (Kd.R_ne HO_C8003.out BKBD.out (by decide)) e_) hs_)); have n4_ := Aside0.mk (blk_kept (blk_up BKBS.out) hkp (fun hs_ => (fun e_ => (Kd.R_ne HO_C8003.out BKBS.out (by decide)) e_) hs_)); have n5_ := Aside0.mk (blk_kept (blk_up BKBZ.out) hkp (fun hs_ => (fun e_ => (Kd.R_ne HO_C8003.out BKBZ.out (by decide)) e_) hs_)); have n6_ := Aside0.mk (blk_kept (blk_up BKC7.out) hkp (fun hs_ => (fun e_ => (Kd.R_ne HO_C8003.out BKC7.out (by decide)) e_) hs_)); have n7_ := Aside0.mk (hb); clear HO_BT003; clear HO_C0003; clear HO_C8003; clear BKBD; clear BKBS; clear BKBZ; clear BKC7; clear HB; have HO_BT003 := n0_; have HO_C0003 := n1_; have HO_C8003 := n2_; have BKBD := n3_; have BKBS := n4_; have BKBZ := n5_; have BKC7 := n6_; have HB := n7_; clear n0_ n1_ n2_ n3_ n4_ n5_ n6_ n7_; (try clear hb); (try clear hkp); (try clear hy0); obtain ⟨hcz109_0, hcz109_1, hcz109_2, hcz109_3, hfz109_0, hfz109_1, hfz109_2, hfz109_3⟩ := blk4 BKC7.out) | ((with_reducible refine gate_callee (f := 48) rfl ?_); refine goesL_ (some 67) rfl rfl Try.func48 (by kernel_rfl) rfl #[.agg #[.int .i64 tC0, .int .i64 tC1, .int .i64 tC2, .slice Ao36 tCk.length co36], .int .i64 1] rfl (by (try simp only [List.map_toArray, List.map_cons, List.map_nil]); first | done | (rw [show tCk.length = tC3.length from (Kd.R_reads' HO_C8003.out).1.symm] <;> rfl) | rfl | (simp only [List.length_drop, List.length_take]; rfl)) ?_; (with_reducible refine (laws_heldBoard.calls kj59 tC0 tC1 tC2 _ _ tCk 1 tCl _ ?side1 ?side2 A91.out).mono ?_); (case side1 => exact Kd.C_up (Kd.R_reads' HO_C8003.out).2.2); (case side2 => rw [show tCk.length = tC3.length from (Kd.R_reads' HO_C8003.out).1.symm]; exact (Kd.R_reads' HO_C8003.out).2.1); rintro e w110 ⟨rfl, hb⟩; refine ⟨_, rfl, ?_⟩; have n0_ := Aside0.mk (Kd.R_below (Kd.R_up HO_BT003.out) hb); have n1_ := Aside0.mk (Kd.R_below (Kd.R_up HO_C0003.out) hb); have n2_ := Aside0.mk (Kd.R_below (Kd.R_up HO_C8003.out) hb); have n3_ := Aside0.mk (blk_below (blk_up BKBD.out) hb); have n4_ := Aside0.mk (blk_below (blk_up BKBS.out) hb); have n5_ := Aside0.mk (blk_below (blk_up BKBZ.out) hb); have n6_ := Aside0.mk (blk_below (blk_up BKC7.out) hb); have n7_ := Aside0.mk (below_step belS hb); clear HO_BT003; clear HO_C0003; clear HO_C8003; clear BKBD; clear BKBS; clear BKBZ; clear BKC7; clear HB; have HO_BT003 := n0_; have HO_C0003 := n1_; have HO_C8003 := n2_; have BKBD := n3_; have BKBS := n4_; have BKBZ := n5_; have BKC7 := n6_; have HB := n7_; clear n0_ n1_ n2_ n3_ n4_ n5_ n6_ n7_; (try clear hb); (try clear hb2); (try clear hk); (try clear hi); have hnb111 := NBBD_BS.out; have hnc111 := NBBS_BD.out; have hnb112 := NBBD_BZ.out; have hnc112 := NBBZ_BD.out; obtain ⟨hcz113_0, hcz113_1, hcz113_2, hcz113_3, hfz113_0, hfz113_1, hfz113_2, hfz113_3⟩ := blk4 BKBD.out) | ((with_reducible refine gate_callee (f := 39) rfl ?_); refine goesL_ (some 75) rfl rfl Try.func39 (by kernel_rfl) rfl #[.agg #[.int .i64 a0_0, .int .i64 a0_1, .int .i64 a0_2, .slice A0_3 l0_3.length c0_3]] rfl argS ?_; (with_reducible refine (laws_toBoard.calls kj59 a0_0 a0_1 a0_2 _ _ l0_3 tCm tCn tCo tCp _ ?side1 ?side2 A101.out).mono ?_); (case side1 => exact Kd.C_up (Kd.C_below HR0_3.out HB.out)); (case side2 => exact HC0_3.out); rintro e w114 ⟨vCq, rfl, ho0, hb⟩; refine ⟨_, rfl, ?_⟩; have n0_ := Aside0.mk (Kd.R_elder' (Kd.R_up HO_BT003.out) (Kd.R_base ho0) hb); have n1_ := Aside0.mk (Kd.R_elder' (Kd.R_up HO_C0003.out) (Kd.R_base ho0) hb); have n2_ := Aside0.mk (Kd.R_elder' (Kd.R_up HO_C8003.out) (Kd.R_base ho0) hb); have n3_ := Aside0.mk (Kd.R_lower (Kd.R_new' (Kd.R_new' (Kd.R_new' ho0 (Kd.R_lt (Kd.R_up HO_BT003.out))) (Kd.R_lt (Kd.R_up HO_C0003.out))) (Kd.R_lt (Kd.R_up HO_C8003.out))) (below_size belS)); have n4_ := Aside0.mk (blk_below (blk_up BKBD.out) hb); have n5_ := Aside0.mk (blk_below (blk_up BKBS.out) hb); have n6_ := Aside0.mk (blk_below (blk_up BKBZ.out) hb); have n7_ := Aside0.mk (blk_below (blk_up BKC7.out) hb); have n8_ := Aside0.mk (below_step belS hb); clear HO_BT003; clear HO_C0003; clear HO_C8003; clear BKBD; clear BKBS; clear BKBZ; clear BKC7; clear HB; have HO_BT003 := n0_; have HO_C0003 := n1_; have HO_C8003 := n2_; have HOCr := n3_; have BKBD := n4_; have BKBS := n5_; have BKBZ := n6_; have BKC7 := n7_; have HB := n8_; clear n0_ n1_ n2_ n3_ n4_ n5_ n6_ n7_ n8_; (try clear hb); (try clear hb2); (try clear hk); (try clear hi); (try clear ho0); obtain ⟨Ao115, co115, eo115⟩ := Kd.R_slice HOCr.out; subst eo115) | ((with_reducible refine gate_callee (f := 104) rfl ?_); refine goesL_ (some 76) rfl rfl Try.func104 (by kernel_rfl) rfl #[.agg #[.int .i64 tCm, .int .i64 tCn, .int .i64 tCo, .slice Ao115 tCp.length co115]] rfl argS ?_; (with_reducible refine (impl_TurnJumps.calls kj59 tCm tCn tCo _ _ tCp tCs tCt tCu tCv tCy _ ?side1 ?side2 A102.out).mono ?_); (case side1 => exact Kd.C_up (Kd.R_reads' HOCr.out).2.2); (case side2 => exact (Kd.R_reads' HOCr.out).2.1); rintro e w116 ⟨vCw, rfl, ho0, hb⟩; refine ⟨_, rfl, ?_⟩; have n0_ := Aside0.mk (Kd.R_elder' (Kd.R_up HO_BT003.out) (Kd.R_base ho0) hb); have n1_ := Aside0.mk (Kd.R_elder' (Kd.R_up HO_C0003.out) (Kd.R_base ho0) hb); have n2_ := Aside0.mk (Kd.R_elder' (Kd.R_up HO_C8003.out) (Kd.R_base ho0) hb); have n3_ := Aside0.mk (Kd.R_elder' (Kd.R_up HOCr.out) (Kd.R_base ho0) hb); have n4_ := Aside0.mk (Kd.R_lower (Kd.R_new' (Kd.R_new' (Kd.R_new' (Kd.R_new' ho0 (Kd.R_lt (Kd.R_up HO_BT003.out))) (Kd.R_lt (Kd.R_up HO_C0003.out))) (Kd.R_lt (Kd.R_up HO_C8003.out))) (Kd.R_lt (Kd.R_up HOCr.out))) (below_size belS)); have n5_ := Aside0.mk (blk_below (blk_up BKBD.out) hb); have n6_ := Aside0.mk (blk_below (blk_up BKBS.out) hb); have n7_ := Aside0.mk (blk_below (blk_up BKBZ.out) hb); have n8_ := Aside0.mk (blk_below (blk_up BKC7.out) hb); have n9_ := Aside0.mk (below_step belS hb); clear HO_BT003; clear HO_C0003; clear HO_C8003; clear HOCr; clear BKBD; clear BKBS; clear BKBZ; clear BKC7; clear HB; have HO_BT003 := n0_; have HO_C0003 := n1_; have HO_C8003 := n2_; have HOCr := n3_; have HOCx := n4_; have BKBD := n5_; have BKBS := n6_; have BKBZ := n7_; have BKC7 := n8_; have HB := n9_; clear n0_ n1_ n2_ n3_ n4_ n5_ n6_ n7_ n8_ n9_; (try clear hb); (try clear hb2); (try clear hk); (try clear hi); (try clear ho0)) | ((with_reducible refine gate_dst (N := 12) rfl ?_); refine box_event ?hg (N := 12) ?hd (cs := #[.int .i64 0, .int .i64 0, .int .i64 0, .slice none 0 0]) (t := 32) ?hr ?_; (case hd => rfl); (case hg => rfl); (case hr => first | (go_simp; done) | (go_simp; rfl)); intro gbCz hg w117 hbox hb; have n0_ := Aside0.mk (Kd.R_below (Kd.R_up HO_BT003.out) hb); have n1_ := Aside0.mk (Kd.R_below (Kd.R_up HO_C0003.out) hb); have n2_ := Aside0.mk (Kd.R_below (Kd.R_up HO_C8003.out) hb); have n3_ := Aside0.mk (Kd.R_below (Kd.R_up HOCr.out) hb); have n4_ := Aside0.mk (Kd.R_below (Kd.R_up HOCx.out) hb); have n5_ := Aside0.mk (blk_below (blk_up BKBD.out) hb); have n6_ := Aside0.mk (blk_below (blk_up BKBS.out) hb); have n7_ := Aside0.mk (blk_below (blk_up BKBZ.out) hb); have n8_ := Aside0.mk (blk_below (blk_up BKC7.out) hb); have n9_ := Aside0.mk (below_step belS hb); have n10_ := Aside0.mk (hbox); have n11_ := Aside0.mk ((by rw [hg]; exact (below_size belS) : w.heap.size ≤ gbCz)); have n12_ := n11_; have n13_ := Aside0.mk ((by rw [hg]; exact Nat.ne_of_lt (blk_lt (blk_up BKBD.out)) : gbBD ≠ gbCz)); have n14_ := Aside0.mk ((by rw [hg]; exact Nat.ne_of_gt (blk_lt (blk_up BKBD.out)) : gbCz ≠ gbBD)); have n15_ := Aside0.mk ((by rw [hg]; exact Nat.ne_of_lt (blk_lt (blk_up BKBS.out)) : gbBS ≠ gbCz)); have n16_ := Aside0.mk ((by rw [hg]; exact Nat.ne_of_gt (blk_lt (blk_up BKBS.out)) : gbCz ≠ gbBS)); have n17_ := Aside0.mk ((by rw [hg]; exact Nat.ne_of_lt (blk_lt (blk_up BKBZ.out)) : gbBZ ≠ gbCz)); have n18_ := Aside0.mk ((by rw [hg]; exact Nat.ne_of_gt (blk_lt (blk_up BKBZ.out)) : gbCz ≠ gbBZ)); have n19_ := Aside0.mk ((by rw [hg]; exact Nat.ne_of_lt (blk_lt (blk_up BKC7.out)) : gbC7 ≠ gbCz)); have n20_ := Aside0.mk ((by rw [hg]; exact Nat.ne_of_gt (blk_lt (blk_up BKC7.out)) : gbCz ≠ gbC7)); clear HO_BT003; clear HO_C0003; clear HO_C8003; clear HOCr; clear HOCx; clear BKBD; clear BKBS; clear BKBZ; clear BKC7; clear HB; have HO_BT003 := n0_; have HO_C0003 := n1_; have HO_C8003 := n2_; have HOCr := n3_; have HOCx := n4_; have BKBD := n5_; have BKBS := n6_; have BKBZ := n7_; have BKC7 := n8_; have HB := n9_; have BKCz := n10_; have GWCz := n11_; have GECz := n12_; have NBBD_Cz := n13_; have NBCz_BD := n14_; have NBBS_Cz := n15_; have NBCz_BS := n16_; have NBBZ_Cz := n17_; have NBCz_BZ := n18_; have NBC7_Cz := n19_; have NBCz_C7 := n20_; clear n0_ n1_ n2_ n3_ n4_ n5_ n6_ n7_ n8_ n9_ n10_ n11_ n12_ n13_ n14_ n15_ n16_ n17_ n18_ n19_ n20_; clear hb hbox hg; have hnb118 := NBCz_BD.out; have hnc118 := NBBD_Cz.out; have hnb119 := NBCz_BS.out; have hnc119 := NBBS_Cz.out; have hnb120 := NBCz_BZ.out; have hnc120 := NBBZ_Cz.out; have hnb121 := NBCz_C7.out; have hnc121 := NBC7_Cz.out; obtain ⟨hcz122_0, hcz122_1, hcz122_2, hcz122_3, hfz122_0, hfz122_1, hfz122_2, hfz122_3⟩ := blk4 BKCz.out; obtain ⟨Ao123, co123, eo123⟩ := Kd.R_slice HOCx.out; subst eo123))
           (try simp only [Act.put, List.setIfInBounds_toArray, List.set_cons_zero, List.set_cons_succ])
           go_cut [87] (fun v87 wc => ∃ (kq : Nat) (x87_102 : Bool), v87 = .bool x87_102 ∧ Aside0 (laws_FnExactTurnJumps.j2 kq tCj x87_102 tC0 tC1 tC2 tCk = some r) ∧ Aside0 (kq ≤ kj59) ∧ Aside0 (Kd.R k27 27 wc w.heap.size (fun k_ => some k_ ≠ ((.slice Ao29 tCh.length co29) : Value).ownBlock ∧ some k_ ≠ ((.slice Ao36 tC3.length co36) : Value).ownBlock ∧ some k_ ≠ ((.slice Ao123 tCv.length co123) : Value).ownBlock) (.slice Ao22 tBO.length co22) tBO) ∧ Aside0 (Kd.R k27 27 wc w.heap.size (fun k_ => some k_ ≠ ((.slice Ao22 tBO.length co22) : Value).ownBlock ∧ some k_ ≠ ((.slice Ao36 tC3.length co36) : Value).ownBlock ∧ some k_ ≠ ((.slice Ao123 tCv.length co123) : Value).ownBlock) (.slice Ao29 tCh.length co29) tCh) ∧ Aside0 (Kd.R k27 27 wc w.heap.size (fun k_ => some k_ ≠ ((.slice Ao22 tBO.length co22) : Value).ownBlock ∧ some k_ ≠ ((.slice Ao29 tCh.length co29) : Value).ownBlock ∧ some k_ ≠ ((.slice Ao123 tCv.length co123) : Value).ownBlock) (.slice Ao36 tC3.length co36) tCk) ∧ Aside0 (Kd.R k27 27 wc w.heap.size (fun k_ => some k_ ≠ ((.slice Ao22 tBO.length co22) : Value).ownBlock ∧ some k_ ≠ ((.slice Ao29 tCh.length co29) : Value).ownBlock ∧ some k_ ≠ ((.slice Ao36 tC3.length co36) : Value).ownBlock) (.slice Ao123 tCv.length co123) tCv) ∧ Aside0 (wc.heap[gbBD]? = some (.cells #[.int .i64 a0_0, .int .i64 a0_1, .int .i64 a0_2, (.slice A0_3 l0_3.length c0_3)] 24 (0, 0))) ∧ Aside0 (wc.heap[gbBS]? = some (.cells #[.int .i64 tBL, .int .i64 tBM, .int .i64 tBN, (.slice Ao22 tBO.length co22)] 32 (0, 0))) ∧ Aside0 (wc.heap[gbBZ]? = some (.cells #[.int .i64 tBT, .int .i64 tBU, .int .i64 tBV, (.slice Ao29 tCh.length co29)] 32 (0, 0))) ∧ Aside0 (wc.heap[gbC7]? = some (.cells #[.int .i64 tC0, .int .i64 tC1, .int .i64 tC2, (.slice Ao36 tC3.length co36)] 32 (0, 0))) ∧ Aside0 (wc.heap[gbCz]? = some (.cells #[.int .i64 tCs, .int .i64 tCt, .int .i64 tCu, (.slice Ao123 tCv.length co123)] 32 (0, 0))) ∧ Aside0 (Below w.heap.size w wc))
           case first =>
            have H := HC103.out
            clear HC103
            replace H := Option.bind_eq_some_iff.mp H
            obtain ⟨tCA, A1240, H⟩ := H
            replace H : (if tCA = true then (laws_FnExactTurnJumps.j2 kj59 tCj (tCy != tBR) tC0 tC1 tC2 tCk) else (laws_FnExactTurnJumps.j2 kj59 tCj true tC0 tC1 tC2 tCk)) = some r := H
            have A124 := Aside0.mk A1240
            clear A1240
            by_cases c125 : tCA = true
            ·subst c125
             have H1 : (laws_FnExactTurnJumps.j2 kj59 tCj (tCy != tBR) tC0 tC1 tC2 tCk) = some r := by rw [if_pos rfl] at H; exact H
             clear H
             have H := H1
             clear H1
             have H' := Aside0.mk H
             clear H
             have hnb126 := NBCz_BD.out
             have hnc126 := NBBD_Cz.out
             have hnb127 := NBCz_BS.out
             have hnc127 := NBBS_Cz.out
             have hnb128 := NBCz_BZ.out
             have hnc128 := NBBZ_Cz.out
             have hnb129 := NBCz_C7.out
             have hnc129 := NBC7_Cz.out
             obtain ⟨hcz130_0, hcz130_1, hcz130_2, hcz130_3, hfz130_0, hfz130_1, hfz130_2, hfz130_3⟩ := blk4 BKCz.out
             have hnb131 := NBBS_BD.out
             have hnc131 := NBBD_BS.out
             have hnb132 := NBBS_BZ.out
             have hnc132 := NBBZ_BS.out
             have hnb133 := NBBS_C7.out
             have hnc133 := NBC7_BS.out
             obtain ⟨hcz134_0, hcz134_1, hcz134_2, hcz134_3, hfz134_0, hfz134_1, hfz134_2, hfz134_3⟩ := blk4 BKBS.out
             go_wp2_with (first | ((with_reducible refine gate_callee (f := 42) rfl ?_); refine goesL_ (some 81) rfl rfl Try.func42 (by kernel_rfl) rfl #[.agg #[.int .i64 tCs, .int .i64 tCt, .int .i64 tCu, .slice Ao123 tCv.length co123], .agg #[.int .i64 tBL, .int .i64 tBM, .int .i64 tBN, .slice Ao22 tBO.length co22]] rfl argS ?_; (with_reducible refine (laws_eqBoard.calls kj59 tCs tCt tCu _ _ tCv tBL tBM tBN _ _ tBO true _ ?side1 ?side2 ?side3 ?side4 A124.out).mono ?_); (case side1 => refine (Kd.R_reads' (e := 27) (base := w.heap.size) (ok := fun k_ => ((((True ∧ some k_ ≠ (.slice Ao22 tBO.length co22 : Value).ownBlock) ∧ some k_ ≠ (.slice Ao29 tCh.length co29 : Value).ownBlock) ∧ some k_ ≠ (.slice Ao36 tC3.length co36 : Value).ownBlock) ∧ some k_ ≠ (.slice Ao115 tCp.length co115 : Value).ownBlock)) (n := tCv.length) (c := co123) ?_).2.2; exact (by (with_reducible repeat (first | apply Kd.R_alloc | apply Kd.R_drewN | apply Kd.R_drew)); exact (Kd.R_mono (Kd.R_far (p := ⟨gbCz, 3, none⟩) (Kd.R_far (p := ⟨gbCz, 2, none⟩) (Kd.R_far (p := ⟨gbCz, 1, none⟩) (Kd.R_far (p := ⟨gbCz, 0, none⟩) (Kd.R_types HOCx.out BKCz.out (by decide)) (fun _ hk => hk.2) (.int .i64 tCs)) (fun _ hk => hk.2) (.int .i64 tCt)) (fun _ hk => hk.2) (.int .i64 tCu)) (fun _ hk => hk.2) (.slice Ao123 tCv.length co123)) (fun _ h_ => h_.1)))); (case side2 => exact (Kd.R_reads' HOCx.out).2.1); (case side3 => refine (Kd.R_reads' (e := 27) (base := w.heap.size) (ok := fun k_ => (((some k_ ≠ (.slice Ao29 tCh.length co29 : Value).ownBlock ∧ some k_ ≠ (.slice Ao36 tC3.length co36 : Value).ownBlock) ∧ some k_ ≠ (.slice Ao115 tCp.length co115 : Value).ownBlock) ∧ some k_ ≠ (.slice Ao123 tCv.length co123 : Value).ownBlock)) (n := tBO.length) (c := co22) ?_).2.2; exact (by (with_reducible repeat (first | apply Kd.R_alloc | apply Kd.R_drewN | apply Kd.R_drew)); exact (Kd.R_mono (Kd.R_far (p := ⟨gbCz, 3, none⟩) (Kd.R_far (p := ⟨gbCz, 2, none⟩) (Kd.R_far (p := ⟨gbCz, 1, none⟩) (Kd.R_far (p := ⟨gbCz, 0, none⟩) (Kd.R_types HO_BT003.out BKCz.out (by decide)) (fun _ hk => hk.2) (.int .i64 tCs)) (fun _ hk => hk.2) (.int .i64 tCt)) (fun _ hk => hk.2) (.int .i64 tCu)) (fun _ hk => hk.2) (.slice Ao123 tCv.length co123)) (fun _ h_ => h_.1)))); (case side4 => exact (Kd.R_reads' HO_BT003.out).2.1); rintro e w135 ⟨rfl, hb⟩; refine ⟨_, rfl, ?_⟩; have n0_ := Aside0.mk (Kd.R_below (by (with_reducible repeat (first | apply Kd.R_alloc | apply Kd.R_drewN | apply Kd.R_drew)); exact (Kd.R_mono (Kd.R_far (p := ⟨gbCz, 3, none⟩) (Kd.R_far (p := ⟨gbCz, 2, none⟩) (Kd.R_far (p := ⟨gbCz, 1, none⟩) (Kd.R_far (p := ⟨gbCz, 0, none⟩) (Kd.R_types HO_BT003.out BKCz.out (by decide)) (fun _ hk => hk.2) (.int .i64 tCs)) (fun _ hk => hk.2) (.int .i64 tCt)) (fun _ hk => hk.2) (.int .i64 tCu)) (fun _ hk => hk.2) (.slice Ao123 tCv.length co123)) (fun _ h_ => h_.1))) hb); have n1_ := Aside0.mk (Kd.R_below (by (with_reducible repeat (first | apply Kd.R_alloc | apply Kd.R_drewN | apply Kd.R_drew)); exact (Kd.R_mono (Kd.R_far (p := ⟨gbCz, 3, none⟩) (Kd.R_far (p := ⟨gbCz, 2, none⟩) (Kd.R_far (p := ⟨gbCz, 1, none⟩) (Kd.R_far (p := ⟨gbCz, 0, none⟩) (Kd.R_types HO_C0003.out BKCz.out (by decide)) (fun _ hk => hk.2) (.int .i64 tCs)) (fun _ hk => hk.2) (.int .i64 tCt)) (fun _ hk => hk.2) (.int .i64 tCu)) (fun _ hk => hk.2) (.slice Ao123 tCv.length co123)) (fun _ h_ => h_.1))) hb); have n2_ := Aside0.mk (Kd.R_below (by (with_reducible repeat (first | apply Kd.R_alloc | apply Kd.R_drewN | apply Kd.R_drew)); exact (Kd.R_mono (Kd.R_far (p := ⟨gbCz, 3, none⟩) (Kd.R_far (p := ⟨gbCz, 2, none⟩) (Kd.R_far (p := ⟨gbCz, 1, none⟩) (Kd.R_far (p := ⟨gbCz, 0, none⟩) (Kd.R_types HO_C8003.out BKCz.out (by decide)) (fun _ hk => hk.2) (.int .i64 tCs)) (fun _ hk => hk.2) (.int .i64 tCt)) (fun _ hk => hk.2) (.int .i64 tCu)) (fun _ hk => hk.2) (.slice Ao123 tCv.length co123)) (fun _ h_ => h_.1))) hb); have n3_ := Aside0.mk (Kd.R_below (by (with_reducible repeat (first | apply Kd.R_alloc | apply Kd.R_drewN | apply Kd.R_drew)); exact (Kd.R_mono (Kd.R_far (p := ⟨gbCz, 3, none⟩) (Kd.R_far (p := ⟨gbCz, 2, none⟩) (Kd.R_far (p := ⟨gbCz, 1, none⟩) (Kd.R_far (p := ⟨gbCz, 0, none⟩) (Kd.R_types HOCr.out BKCz.out (by decide)) (fun _ hk => hk.2) (.int .i64 tCs)) (fun _ hk => hk.2) (.int .i64 tCt)) (fun _ hk => hk.2) (.int .i64 tCu)) (fun _ hk => hk.2) (.slice Ao123 tCv.length co123)) (fun _ h_ => h_.1))) hb); have n4_ := Aside0.mk (Kd.R_below (by (with_reducible repeat (first | apply Kd.R_alloc | apply Kd.R_drewN | apply Kd.R_drew)); exact (Kd.R_mono (Kd.R_far (p := ⟨gbCz, 3, none⟩) (Kd.R_far (p := ⟨gbCz, 2, none⟩) (Kd.R_far (p := ⟨gbCz, 1, none⟩) (Kd.R_far (p := ⟨gbCz, 0, none⟩) (Kd.R_types HOCx.out BKCz.out (by decide)) (fun _ hk => hk.2) (.int .i64 tCs)) (fun _ hk => hk.2) (.int .i64 tCt)) (fun _ hk => hk.2) (.int .i64 tCu)) (fun _ hk => hk.2) (.slice Ao123 tCv.length co123)) (fun _ h_ => h_.1))) hb); have n5_ := Aside0.mk (blk_below (g := gbBD) (o := .cells #[.int .i64 a0_0, .int .i64 a0_1, .int .i64 a0_2, .slice A0_3 l0_3.length c0_3] 24 (0, 0)) (by (with_reducible repeat (first | refine blk_drewN ?_ _ | refine blk_drew ?_ | refine blk_alloc ?_ _)); refine blk_far ?_ NBBD_Cz.out _; (with_reducible repeat (first | refine blk_drewN ?_ _ | refine blk_drew ?_ | refine blk_alloc ?_ _)); refine blk_far ?_ NBBD_Cz.out _; (with_reducible repeat (first | refine blk_drewN ?_ _ | refine blk_drew ?_ | refine blk_alloc ?_ _)); refine blk_far ?_ NBBD_Cz.out _; (with_reducible repeat (first | refine blk_drewN ?_ _ | refine blk_drew ?_ | refine blk_alloc ?_ _)); refine blk_far ?_ NBBD_Cz.out _; (with_reducible repeat (first | refine blk_drewN ?_ _ | refine blk_drew ?_ | refine blk_alloc ?_ _)); exact BKBD.out) hb); have n6_ := Aside0.mk (blk_below (g := gbBS) (o := .cells #[.int .i64 tBL, .int .i64 tBM, .int .i64 tBN, .slice Ao22 tBO.length co22] 32 (0, 0)) (by (with_reducible repeat (first | refine blk_drewN ?_ _ | refine blk_drew ?_ | refine blk_alloc ?_ _)); refine blk_far ?_ NBBS_Cz.out _; (with_reducible repeat (first | refine blk_drewN ?_ _ | refine blk_drew ?_ | refine blk_alloc ?_ _)); refine blk_far ?_ NBBS_Cz.out _; (with_reducible repeat (first | refine blk_drewN ?_ _ | refine blk_drew ?_ | refine blk_alloc ?_ _)); refine blk_far ?_ NBBS_Cz.out _; (with_reducible repeat (first | refine blk_drewN ?_ _ | refine blk_drew ?_ | refine blk_alloc ?_ _)); refine blk_far ?_ NBBS_Cz.out _; (with_reducible repeat (first | refine blk_drewN ?_ _ | refine blk_drew ?_ | refine blk_alloc ?_ _)); exact BKBS.out) hb); have n7_ := Aside0.mk (blk_below (g := gbBZ) (o := .cells #[.int .i64 tBT, .int .i64 tBU, .int .i64 tBV, .slice Ao29 tCh.length co29] 32 (0, 0)) (by (with_reducible repeat (first | refine blk_drewN ?_ _ | refine blk_drew ?_ | refine blk_alloc ?_ _)); refine blk_far ?_ NBBZ_Cz.out _; (with_reducible repeat (first | refine blk_drewN ?_ _ | refine blk_drew ?_ | refine blk_alloc ?_ _)); refine blk_far ?_ NBBZ_Cz.out _; (with_reducible repeat (first | refine blk_drewN ?_ _ | refine blk_drew ?_ | refine blk_alloc ?_ _)); refine blk_far ?_ NBBZ_Cz.out _; (with_reducible repeat (first | refine blk_drewN ?_ _ | refine blk_drew ?_ | refine blk_alloc ?_ _)); refine blk_far ?_ NBBZ_Cz.out _; (with_reducible repeat (first | refine blk_drewN ?_ _ | refine blk_drew ?_ | refine blk_alloc ?_ _)); exact BKBZ.out) hb); have n8_ := Aside0.mk (blk_below (g := gbC7) (o := .cells #[.int .i64 tC0, .int .i64 tC1, .int .i64 tC2, .slice Ao36 tC3.length co36] 32 (0, 0)) (by (with_reducible repeat (first | refine blk_drewN ?_ _ | refine blk_drew ?_ | refine blk_alloc ?_ _)); refine blk_far ?_ NBC7_Cz.out _; (with_reducible repeat (first | refine blk_drewN ?_ _ | refine blk_drew ?_ | refine blk_alloc ?_ _)); refine blk_far ?_ NBC7_Cz.out _; (with_reducible repeat (first | refine blk_drewN ?_ _ | refine blk_drew ?_ | refine blk_alloc ?_ _)); refine blk_far ?_ NBC7_Cz.out _; (with_reducible repeat (first | refine blk_drewN ?_ _ | refine blk_drew ?_ | refine blk_alloc ?_ _)); refine blk_far ?_ NBC7_Cz.out _; (with_reducible repeat (first | refine blk_drewN ?_ _ | refine blk_drew ?_ | refine blk_alloc ?_ _)); exact BKC7.out) hb); have n9_ := Aside0.mk (blk_below (g := gbCz) (o := .cells #[.int .i64 tCs, .int .i64 tCt, .int .i64 tCu, .slice Ao123 tCv.length co123] 32 (0, 0)) (by (with_reducible repeat (first | refine blk_drewN ?_ _ | refine blk_drew ?_ | refine blk_alloc ?_ _)); refine blk_put (cs := #[.int .i64 tCs, .int .i64 tCt, .int .i64 tCu, .slice none 0 0]) ?_ 3 _ rfl; (with_reducible repeat (first | refine blk_drewN ?_ _ | refine blk_drew ?_ | refine blk_alloc ?_ _)); refine blk_put (cs := #[.int .i64 tCs, .int .i64 tCt, .int .i64 0, .slice none 0 0]) ?_ 2 _ rfl; (with_reducible repeat (first | refine blk_drewN ?_ _ | refine blk_drew ?_ | refine blk_alloc ?_ _)); refine blk_put (cs := #[.int .i64 tCs, .int .i64 0, .int .i64 0, .slice none 0 0]) ?_ 1 _ rfl; (with_reducible repeat (first | refine blk_drewN ?_ _ | refine blk_drew ?_ | refine blk_alloc ?_ _)); refine blk_put (cs := #[.int .i64 0, .int .i64 0, .int .i64 0, .slice none 0 0]) ?_ 0 _ rfl; (with_reducible repeat (first | refine blk_drewN ?_ _ | refine blk_drew ?_ | refine blk_alloc ?_ _)); exact BKCz.out) hb); have n10_ := Aside0.mk (below_step belS hb); clear HO_BT003; clear HO_C0003; clear HO_C8003; clear HOCr; clear HOCx; clear BKBD; clear BKBS; clear BKBZ; clear BKC7; clear BKCz; clear HB; have HO_BT003 := n0_; have HO_C0003 := n1_; have HO_C8003 := n2_; have HOCr := n3_; have HOCx := n4_; have BKBD := n5_; have BKBS := n6_; have BKBZ := n7_; have BKC7 := n8_; have BKCz := n9_; have HB := n10_; clear n0_ n1_ n2_ n3_ n4_ n5_ n6_ n7_ n8_ n9_ n10_; (try clear hb); (try clear hb2); (try clear hk); (try clear hi)))
             go_meet
             case rel => exact ⟨_, ((tCy != tBR)), (by first | rfl | (simp; done) | (simp [*]; done)), H', ⟨by have := HJ10.out; have := HJ59.out; first | omega | exact Nat.le_refl _⟩, ⟨by (try simp only [hlC0003_59]); (with_reducible repeat (first | apply Kd.R_alloc | apply Kd.R_drewN | apply Kd.R_drew)); exact Kd.R_mono HO_BT003.out (fun _ hk => ⟨hk.1.1.1, ⟨hk.1.1.2, hk.2⟩⟩)⟩, ⟨by (try simp only [hlC0003_59]); (with_reducible repeat (first | apply Kd.R_alloc | apply Kd.R_drewN | apply Kd.R_drew)); exact Kd.R_mono HO_C0003.out (fun _ hk => ⟨hk.1.1.1, ⟨hk.1.1.2, hk.2⟩⟩)⟩, ⟨by (try simp only [hlC0003_59]); (with_reducible repeat (first | apply Kd.R_alloc | apply Kd.R_drewN | apply Kd.R_drew)); exact Kd.R_mono HO_C8003.out (fun _ hk => ⟨hk.1.1.1, ⟨hk.1.1.2, hk.2⟩⟩)⟩, ⟨by (try simp only [hlC0003_59]); (with_reducible repeat (first | apply Kd.R_alloc | apply Kd.R_drewN | apply Kd.R_drew)); exact Kd.R_mono HOCx.out (fun _ hk => ⟨hk.1.1.1.2, ⟨hk.1.1.2, hk.1.2⟩⟩)⟩, ⟨by (try simp only [hlC0003_59]); (with_reducible repeat (first | refine blk_drewN ?_ _ | refine blk_drew ?_ | refine blk_alloc ?_ _)); exact BKBD.out⟩, ⟨by (try simp only [hlC0003_59]); (with_reducible repeat (first | refine blk_drewN ?_ _ | refine blk_drew ?_ | refine blk_alloc ?_ _)); exact BKBS.out⟩, ⟨by (try simp only [hlC0003_59]); (with_reducible repeat (first | refine blk_drewN ?_ _ | refine blk_drew ?_ | refine blk_alloc ?_ _)); exact BKBZ.out⟩, ⟨by (try simp only [hlC0003_59]); (with_reducible repeat (first | refine blk_drewN ?_ _ | refine blk_drew ?_ | refine blk_alloc ?_ _)); exact BKC7.out⟩, ⟨by (try simp only [hlC0003_59]); (with_reducible repeat (first | refine blk_drewN ?_ _ | refine blk_drew ?_ | refine blk_alloc ?_ _)); exact BKCz.out⟩, ⟨by exact belS⟩⟩
            ·replace c125 := Bool.eq_false_iff.mpr c125
             subst c125
             have H1 : (laws_FnExactTurnJumps.j2 kj59 tCj true tC0 tC1 tC2 tCk) = some r := by rw [if_neg (show ¬ (false = true) by decide)] at H; exact H
             clear H
             have H := H1
             clear H1
             have H' := Aside0.mk H
             clear H
             have hnb136 := NBCz_BD.out
             have hnc136 := NBBD_Cz.out
             have hnb137 := NBCz_BS.out
             have hnc137 := NBBS_Cz.out
             have hnb138 := NBCz_BZ.out
             have hnc138 := NBBZ_Cz.out
             have hnb139 := NBCz_C7.out
             have hnc139 := NBC7_Cz.out
             obtain ⟨hcz140_0, hcz140_1, hcz140_2, hcz140_3, hfz140_0, hfz140_1, hfz140_2, hfz140_3⟩ := blk4 BKCz.out
             have hnb141 := NBBS_BD.out
             have hnc141 := NBBD_BS.out
             have hnb142 := NBBS_BZ.out
             have hnc142 := NBBZ_BS.out
             have hnb143 := NBBS_C7.out
             have hnc143 := NBC7_BS.out
             obtain ⟨hcz144_0, hcz144_1, hcz144_2, hcz144_3, hfz144_0, hfz144_1, hfz144_2, hfz144_3⟩ := blk4 BKBS.out
             go_wp2_with (first | ((with_reducible refine gate_callee (f := 42) rfl ?_); refine goesL_ (some 81) rfl rfl Try.func42 (by kernel_rfl) rfl #[.agg #[.int .i64 tCs, .int .i64 tCt, .int .i64 tCu, .slice Ao123 tCv.length co123], .agg #[.int .i64 tBL, .int .i64 tBM, .int .i64 tBN, .slice Ao22 tBO.length co22]] rfl argS ?_; (with_reducible refine (laws_eqBoard.calls kj59 tCs tCt tCu _ _ tCv tBL tBM tBN _ _ tBO false _ ?side1 ?side2 ?side3 ?side4 A124.out).mono ?_); (case side1 => refine (Kd.R_reads' (e := 27) (base := w.heap.size) (ok := fun k_ => ((((True ∧ some k_ ≠ (.slice Ao22 tBO.length co22 : Value).ownBlock) ∧ some k_ ≠ (.slice Ao29 tCh.length co29 : Value).ownBlock) ∧ some k_ ≠ (.slice Ao36 tC3.length co36 : Value).ownBlock) ∧ some k_ ≠ (.slice Ao115 tCp.length co115 : Value).ownBlock)) (n := tCv.length) (c := co123) ?_).2.2; exact (by (with_reducible repeat (first | apply Kd.R_alloc | apply Kd.R_drewN | apply Kd.R_drew)); exact (Kd.R_mono (Kd.R_far (p := ⟨gbCz, 3, none⟩) (Kd.R_far (p := ⟨gbCz, 2, none⟩) (Kd.R_far (p := ⟨gbCz, 1, none⟩) (Kd.R_far (p := ⟨gbCz, 0, none⟩) (Kd.R_types HOCx.out BKCz.out (by decide)) (fun _ hk => hk.2) (.int .i64 tCs)) (fun _ hk => hk.2) (.int .i64 tCt)) (fun _ hk => hk.2) (.int .i64 tCu)) (fun _ hk => hk.2) (.slice Ao123 tCv.length co123)) (fun _ h_ => h_.1)))); (case side2 => exact (Kd.R_reads' HOCx.out).2.1); (case side3 => refine (Kd.R_reads' (e := 27) (base := w.heap.size) (ok := fun k_ => (((some k_ ≠ (.slice Ao29 tCh.length co29 : Value).ownBlock ∧ some k_ ≠ (.slice Ao36 tC3.length co36 : Value).ownBlock) ∧ some k_ ≠ (.slice Ao115 tCp.length co115 : Value).ownBlock) ∧ some k_ ≠ (.slice Ao123 tCv.length co123 : Value).ownBlock)) (n := tBO.length) (c := co22) ?_).2.2; exact (by (with_reducible repeat (first | apply Kd.R_alloc | apply Kd.R_drewN | apply Kd.R_drew)); exact (Kd.R_mono (Kd.R_far (p := ⟨gbCz, 3, none⟩) (Kd.R_far (p := ⟨gbCz, 2, none⟩) (Kd.R_far (p := ⟨gbCz, 1, none⟩) (Kd.R_far (p := ⟨gbCz, 0, none⟩) (Kd.R_types HO_BT003.out BKCz.out (by decide)) (fun _ hk => hk.2) (.int .i64 tCs)) (fun _ hk => hk.2) (.int .i64 tCt)) (fun _ hk => hk.2) (.int .i64 tCu)) (fun _ hk => hk.2) (.slice Ao123 tCv.length co123)) (fun _ h_ => h_.1)))); (case side4 => exact (Kd.R_reads' HO_BT003.out).2.1); rintro e w145 ⟨rfl, hb⟩; refine ⟨_, rfl, ?_⟩; have n0_ := Aside0.mk (Kd.R_below (by (with_reducible repeat (first | apply Kd.R_alloc | apply Kd.R_drewN | apply Kd.R_drew)); exact (Kd.R_mono (Kd.R_far (p := ⟨gbCz, 3, none⟩) (Kd.R_far (p := ⟨gbCz, 2, none⟩) (Kd.R_far (p := ⟨gbCz, 1, none⟩) (Kd.R_far (p := ⟨gbCz, 0, none⟩) (Kd.R_types HO_BT003.out BKCz.out (by decide)) (fun _ hk => hk.2) (.int .i64 tCs)) (fun _ hk => hk.2) (.int .i64 tCt)) (fun _ hk => hk.2) (.int .i64 tCu)) (fun _ hk => hk.2) (.slice Ao123 tCv.length co123)) (fun _ h_ => h_.1))) hb); have n1_ := Aside0.mk (Kd.R_below (by (with_reducible repeat (first | apply Kd.R_alloc | apply Kd.R_drewN | apply Kd.R_drew)); exact (Kd.R_mono (Kd.R_far (p := ⟨gbCz, 3, none⟩) (Kd.R_far (p := ⟨gbCz, 2, none⟩) (Kd.R_far (p := ⟨gbCz, 1, none⟩) (Kd.R_far (p := ⟨gbCz, 0, none⟩) (Kd.R_types HO_C0003.out BKCz.out (by decide)) (fun _ hk => hk.2) (.int .i64 tCs)) (fun _ hk => hk.2) (.int .i64 tCt)) (fun _ hk => hk.2) (.int .i64 tCu)) (fun _ hk => hk.2) (.slice Ao123 tCv.length co123)) (fun _ h_ => h_.1))) hb); have n2_ := Aside0.mk (Kd.R_below (by (with_reducible repeat (first | apply Kd.R_alloc | apply Kd.R_drewN | apply Kd.R_drew)); exact (Kd.R_mono (Kd.R_far (p := ⟨gbCz, 3, none⟩) (Kd.R_far (p := ⟨gbCz, 2, none⟩) (Kd.R_far (p := ⟨gbCz, 1, none⟩) (Kd.R_far (p := ⟨gbCz, 0, none⟩) (Kd.R_types HO_C8003.out BKCz.out (by decide)) (fun _ hk => hk.2) (.int .i64 tCs)) (fun _ hk => hk.2) (.int .i64 tCt)) (fun _ hk => hk.2) (.int .i64 tCu)) (fun _ hk => hk.2) (.slice Ao123 tCv.length co123)) (fun _ h_ => h_.1))) hb); have n3_ := Aside0.mk (Kd.R_below (by (with_reducible repeat (first | apply Kd.R_alloc | apply Kd.R_drewN | apply Kd.R_drew)); exact (Kd.R_mono (Kd.R_far (p := ⟨gbCz, 3, none⟩) (Kd.R_far (p := ⟨gbCz, 2, none⟩) (Kd.R_far (p := ⟨gbCz, 1, none⟩) (Kd.R_far (p := ⟨gbCz, 0, none⟩) (Kd.R_types HOCr.out BKCz.out (by decide)) (fun _ hk => hk.2) (.int .i64 tCs)) (fun _ hk => hk.2) (.int .i64 tCt)) (fun _ hk => hk.2) (.int .i64 tCu)) (fun _ hk => hk.2) (.slice Ao123 tCv.length co123)) (fun _ h_ => h_.1))) hb); have n4_ := Aside0.mk (Kd.R_below (by (with_reducible repeat (first | apply Kd.R_alloc | apply Kd.R_drewN | apply Kd.R_drew)); exact (Kd.R_mono (Kd.R_far (p := ⟨gbCz, 3, none⟩) (Kd.R_far (p := ⟨gbCz, 2, none⟩) (Kd.R_far (p := ⟨gbCz, 1, none⟩) (Kd.R_far (p := ⟨gbCz, 0, none⟩) (Kd.R_types HOCx.out BKCz.out (by decide)) (fun _ hk => hk.2) (.int .i64 tCs)) (fun _ hk => hk.2) (.int .i64 tCt)) (fun _ hk => hk.2) (.int .i64 tCu)) (fun _ hk => hk.2) (.slice Ao123 tCv.length co123)) (fun _ h_ => h_.1))) hb); have n5_ := Aside0.mk (blk_below (g := gbBD) (o := .cells #[.int .i64 a0_0, .int .i64 a0_1, .int .i64 a0_2, .slice A0_3 l0_3.length c0_3] 24 (0, 0)) (by (with_reducible repeat (first | refine blk_drewN ?_ _ | refine blk_drew ?_ | refine blk_alloc ?_ _)); refine blk_far ?_ NBBD_Cz.out _; (with_reducible repeat (first | refine blk_drewN ?_ _ | refine blk_drew ?_ | refine blk_alloc ?_ _)); refine blk_far ?_ NBBD_Cz.out _; (with_reducible repeat (first | refine blk_drewN ?_ _ | refine blk_drew ?_ | refine blk_alloc ?_ _)); refine blk_far ?_ NBBD_Cz.out _; (with_reducible repeat (first | refine blk_drewN ?_ _ | refine blk_drew ?_ | refine blk_alloc ?_ _)); refine blk_far ?_ NBBD_Cz.out _; (with_reducible repeat (first | refine blk_drewN ?_ _ | refine blk_drew ?_ | refine blk_alloc ?_ _)); exact BKBD.out) hb); have n6_ := Aside0.mk (blk_below (g := gbBS) (o := .cells #[.int .i64 tBL, .int .i64 tBM, .int .i64 tBN, .slice Ao22 tBO.length co22] 32 (0, 0)) (by (with_reducible repeat (first | refine blk_drewN ?_ _ | refine blk_drew ?_ | refine blk_alloc ?_ _)); refine blk_far ?_ NBBS_Cz.out _; (with_reducible repeat (first | refine blk_drewN ?_ _ | refine blk_drew ?_ | refine blk_alloc ?_ _)); refine blk_far ?_ NBBS_Cz.out _; (with_reducible repeat (first | refine blk_drewN ?_ _ | refine blk_drew ?_ | refine blk_alloc ?_ _)); refine blk_far ?_ NBBS_Cz.out _; (with_reducible repeat (first | refine blk_drewN ?_ _ | refine blk_drew ?_ | refine blk_alloc ?_ _)); refine blk_far ?_ NBBS_Cz.out _; (with_reducible repeat (first | refine blk_drewN ?_ _ | refine blk_drew ?_ | refine blk_alloc ?_ _)); exact BKBS.out) hb); have n7_ := Aside0.mk (blk_below (g := gbBZ) (o := .cells #[.int .i64 tBT, .int .i64 tBU, .int .i64 tBV, .slice Ao29 tCh.length co29] 32 (0, 0)) (by (with_reducible repeat (first | refine blk_drewN ?_ _ | refine blk_drew ?_ | refine blk_alloc ?_ _)); refine blk_far ?_ NBBZ_Cz.out _; (with_reducible repeat (first | refine blk_drewN ?_ _ | refine blk_drew ?_ | refine blk_alloc ?_ _)); refine blk_far ?_ NBBZ_Cz.out _; (with_reducible repeat (first | refine blk_drewN ?_ _ | refine blk_drew ?_ | refine blk_alloc ?_ _)); refine blk_far ?_ NBBZ_Cz.out _; (with_reducible repeat (first | refine blk_drewN ?_ _ | refine blk_drew ?_ | refine blk_alloc ?_ _)); refine blk_far ?_ NBBZ_Cz.out _; (with_reducible repeat (first | refine blk_drewN ?_ _ | refine blk_drew ?_ | refine blk_alloc ?_ _)); exact BKBZ.out) hb); have n8_ := Aside0.mk (blk_below (g := gbC7) (o := .cells #[.int .i64 tC0, .int .i64 tC1, .int .i64 tC2, .slice Ao36 tC3.length co36] 32 (0, 0)) (by (with_reducible repeat (first | refine blk_drewN ?_ _ | refine blk_drew ?_ | refine blk_alloc ?_ _)); refine blk_far ?_ NBC7_Cz.out _; (with_reducible repeat (first | refine blk_drewN ?_ _ | refine blk_drew ?_ | refine blk_alloc ?_ _)); refine blk_far ?_ NBC7_Cz.out _; (with_reducible repeat (first | refine blk_drewN ?_ _ | refine blk_drew ?_ | refine blk_alloc ?_ _)); refine blk_far ?_ NBC7_Cz.out _; (with_reducible repeat (first | refine blk_drewN ?_ _ | refine blk_drew ?_ | refine blk_alloc ?_ _)); refine blk_far ?_ NBC7_Cz.out _; (with_reducible repeat (first | refine blk_drewN ?_ _ | refine blk_drew ?_ | refine blk_alloc ?_ _)); exact BKC7.out) hb); have n9_ := Aside0.mk (blk_below (g := gbCz) (o := .cells #[.int .i64 tCs, .int .i64 tCt, .int .i64 tCu, .slice Ao123 tCv.length co123] 32 (0, 0)) (by (with_reducible repeat (first | refine blk_drewN ?_ _ | refine blk_drew ?_ | refine blk_alloc ?_ _)); refine blk_put (cs := #[.int .i64 tCs, .int .i64 tCt, .int .i64 tCu, .slice none 0 0]) ?_ 3 _ rfl; (with_reducible repeat (first | refine blk_drewN ?_ _ | refine blk_drew ?_ | refine blk_alloc ?_ _)); refine blk_put (cs := #[.int .i64 tCs, .int .i64 tCt, .int .i64 0, .slice none 0 0]) ?_ 2 _ rfl; (with_reducible repeat (first | refine blk_drewN ?_ _ | refine blk_drew ?_ | refine blk_alloc ?_ _)); refine blk_put (cs := #[.int .i64 tCs, .int .i64 0, .int .i64 0, .slice none 0 0]) ?_ 1 _ rfl; (with_reducible repeat (first | refine blk_drewN ?_ _ | refine blk_drew ?_ | refine blk_alloc ?_ _)); refine blk_put (cs := #[.int .i64 0, .int .i64 0, .int .i64 0, .slice none 0 0]) ?_ 0 _ rfl; (with_reducible repeat (first | refine blk_drewN ?_ _ | refine blk_drew ?_ | refine blk_alloc ?_ _)); exact BKCz.out) hb); have n10_ := Aside0.mk (below_step belS hb); clear HO_BT003; clear HO_C0003; clear HO_C8003; clear HOCr; clear HOCx; clear BKBD; clear BKBS; clear BKBZ; clear BKC7; clear BKCz; clear HB; have HO_BT003 := n0_; have HO_C0003 := n1_; have HO_C8003 := n2_; have HOCr := n3_; have HOCx := n4_; have BKBD := n5_; have BKBS := n6_; have BKBZ := n7_; have BKC7 := n8_; have BKCz := n9_; have HB := n10_; clear n0_ n1_ n2_ n3_ n4_ n5_ n6_ n7_ n8_ n9_ n10_; (try clear hb); (try clear hb2); (try clear hk); (try clear hi)))
             go_meet
             case rel => exact ⟨_, (true), (by first | rfl | (simp; done) | (simp [*]; done)), H', ⟨by have := HJ10.out; have := HJ59.out; first | omega | exact Nat.le_refl _⟩, ⟨by (try simp only [hlC0003_59]); (with_reducible repeat (first | apply Kd.R_alloc | apply Kd.R_drewN | apply Kd.R_drew)); exact Kd.R_mono HO_BT003.out (fun _ hk => ⟨hk.1.1.1, ⟨hk.1.1.2, hk.2⟩⟩)⟩, ⟨by (try simp only [hlC0003_59]); (with_reducible repeat (first | apply Kd.R_alloc | apply Kd.R_drewN | apply Kd.R_drew)); exact Kd.R_mono HO_C0003.out (fun _ hk => ⟨hk.1.1.1, ⟨hk.1.1.2, hk.2⟩⟩)⟩, ⟨by (try simp only [hlC0003_59]); (with_reducible repeat (first | apply Kd.R_alloc | apply Kd.R_drewN | apply Kd.R_drew)); exact Kd.R_mono HO_C8003.out (fun _ hk => ⟨hk.1.1.1, ⟨hk.1.1.2, hk.2⟩⟩)⟩, ⟨by (try simp only [hlC0003_59]); (with_reducible repeat (first | apply Kd.R_alloc | apply Kd.R_drewN | apply Kd.R_drew)); exact Kd.R_mono HOCx.out (fun _ hk => ⟨hk.1.1.1.2, ⟨hk.1.1.2, hk.1.2⟩⟩)⟩, ⟨by (try simp only [hlC0003_59]); (with_reducible repeat (first | refine blk_drewN ?_ _ | refine blk_drew ?_ | refine blk_alloc ?_ _)); exact BKBD.out⟩, ⟨by (try simp only [hlC0003_59]); (with_reducible repeat (first | refine blk_drewN ?_ _ | refine blk_drew ?_ | refine blk_alloc ?_ _)); exact BKBS.out⟩, ⟨by (try simp only [hlC0003_59]); (with_reducible repeat (first | refine blk_drewN ?_ _ | refine blk_drew ?_ | refine blk_alloc ?_ _)); exact BKBZ.out⟩, ⟨by (try simp only [hlC0003_59]); (with_reducible repeat (first | refine blk_drewN ?_ _ | refine blk_drew ?_ | refine blk_alloc ?_ _)); exact BKC7.out⟩, ⟨by (try simp only [hlC0003_59]); (with_reducible repeat (first | refine blk_drewN ?_ _ | refine blk_drew ?_ | refine blk_alloc ?_ _)); exact BKCz.out⟩, ⟨by exact belS⟩⟩
           case rest =>
            clear HC103
            try clear c1
            try clear c2
            try clear p2
            try clear c3
            try clear c3b0
            try clear c4
            try clear c5
            try clear c6
            try clear c7
            try clear c8
            try clear c9
            try clear c10
            try clear c11
            try clear c12
            try clear c13
            try clear c14
            try clear c20
            try clear c26
            try clear c27
            try clear c32
            try clear c33
            try clear c34
            try clear c37
            try clear c38
            try clear c39
            try clear c40
            try clear c41
            try clear c42
            try clear c43
            try clear c44
            try clear c47
            try clear c48
            try clear c49
            try clear c51
            try clear c52
            try clear c55
            try clear c58
            try clear c65
            try clear c66
            try clear c67
            try clear c70
            try clear c70b0
            try clear c72
            try clear c73
            try clear c74
            try clear c75
            try clear c77
            try clear c78
            try clear c81
            try clear c82
            try clear c83
            try clear c85
            try clear c86
            try clear c89
            try clear c92
            try clear c92b0
            try clear c93
            try clear c94
            try clear c95
            try clear c100
            try clear c100b0
            try clear c100b1
            try clear c104
            try clear c105
            try clear c106
            try clear c111
            try clear c112
            try clear c118
            try clear c119
            try clear c120
            try clear c121
            try clear c125
            try clear c126
            try clear c127
            try clear c128
            try clear c129
            try clear c131
            try clear c132
            try clear c133
            try clear c136
            try clear c137
            try clear c138
            try clear c139
            try clear c141
            try clear c142
            try clear c143
            try clear hcz107_0 hcz107_1 hcz107_2 hcz107_3
            try clear hcz109_0 hcz109_1 hcz109_2 hcz109_3
            try clear hcz113_0 hcz113_1 hcz113_2 hcz113_3
            try clear hcz122_0 hcz122_1 hcz122_2 hcz122_3
            try clear hcz130_0 hcz130_1 hcz130_2 hcz130_3
            try clear hcz134_0 hcz134_1 hcz134_2 hcz134_3
            try clear hcz13_0 hcz13_1 hcz13_2 hcz13_3
            try clear hcz140_0 hcz140_1 hcz140_2 hcz140_3
            try clear hcz144_0 hcz144_1 hcz144_2 hcz144_3
            try clear hcz15_0 hcz15_1 hcz15_2 hcz15_3
            try clear hcz21_0 hcz21_1 hcz21_2 hcz21_3
            try clear hcz23_0 hcz23_1 hcz23_2 hcz23_3
            try clear hcz28_0 hcz28_1 hcz28_2 hcz28_3
            try clear hcz35_0 hcz35_1 hcz35_2 hcz35_3
            try clear hcz42_0 hcz42_1 hcz42_2 hcz42_3
            try clear hcz45_0 hcz45_1 hcz45_2 hcz45_3
            try clear hcz50_0 hcz50_1 hcz50_2 hcz50_3
            try clear hcz53_0 hcz53_1 hcz53_2 hcz53_3
            try clear hcz5_0 hcz5_1 hcz5_2 hcz5_3
            try clear hcz68_0 hcz68_1 hcz68_2 hcz68_3
            try clear hcz76_0 hcz76_1 hcz76_2 hcz76_3
            try clear hcz79_0 hcz79_1 hcz79_2 hcz79_3
            try clear hcz84_0 hcz84_1 hcz84_2 hcz84_3
            try clear hcz87_0 hcz87_1 hcz87_2 hcz87_3
            try clear hcz96_0 hcz96_1 hcz96_2 hcz96_3
            try clear hcz98_0 hcz98_1 hcz98_2 hcz98_3
            try clear hfz107_0 hfz107_1 hfz107_2 hfz107_3
            try clear hfz109_0 hfz109_1 hfz109_2 hfz109_3
            try clear hfz113_0 hfz113_1 hfz113_2 hfz113_3
            try clear hfz122_0 hfz122_1 hfz122_2 hfz122_3
            try clear hfz130_0 hfz130_1 hfz130_2 hfz130_3
            try clear hfz134_0 hfz134_1 hfz134_2 hfz134_3
            try clear hfz13_0 hfz13_1 hfz13_2 hfz13_3
            try clear hfz140_0 hfz140_1 hfz140_2 hfz140_3
            try clear hfz144_0 hfz144_1 hfz144_2 hfz144_3
            try clear hfz15_0 hfz15_1 hfz15_2 hfz15_3
            try clear hfz21_0 hfz21_1 hfz21_2 hfz21_3
            try clear hfz23_0 hfz23_1 hfz23_2 hfz23_3
            try clear hfz28_0 hfz28_1 hfz28_2 hfz28_3
            try clear hfz35_0 hfz35_1 hfz35_2 hfz35_3
            try clear hfz42_0 hfz42_1 hfz42_2 hfz42_3
            try clear hfz45_0 hfz45_1 hfz45_2 hfz45_3
            try clear hfz50_0 hfz50_1 hfz50_2 hfz50_3
            try clear hfz53_0 hfz53_1 hfz53_2 hfz53_3
            try clear hfz5_0 hfz5_1 hfz5_2 hfz5_3
            try clear hfz68_0 hfz68_1 hfz68_2 hfz68_3
            try clear hfz76_0 hfz76_1 hfz76_2 hfz76_3
            try clear hfz79_0 hfz79_1 hfz79_2 hfz79_3
            try clear hfz84_0 hfz84_1 hfz84_2 hfz84_3
            try clear hfz87_0 hfz87_1 hfz87_2 hfz87_3
            try clear hfz96_0 hfz96_1 hfz96_2 hfz96_3
            try clear hfz98_0 hfz98_1 hfz98_2 hfz98_3
            try clear p2
            obtain ⟨kq, x87_102, rfl, HA, HJ102, HO_BT003, HO_C0003, HO_C8003, HO_CA003, BKBD, BKBS, BKBZ, BKC7, BKCz, HB⟩ := hcut
            have hlC8003_102 := (Kd.R_reads' HO_C8003.out).1
            rw [hlC8003_102] at HO_C8003
            (try simp only [hlC8003_102])
            (try simp only [hlC8003_102] at BKBD)
            (try simp only [hlC8003_102] at BKBS)
            (try simp only [hlC8003_102] at BKBZ)
            (try simp only [hlC8003_102] at BKC7)
            (try simp only [hlC8003_102] at BKCz)
            (try simp only [hlC8003_102] at HO_BT003)
            (try simp only [hlC8003_102] at HO_C0003)
            (try simp only [hlC8003_102] at HO_CA003)
            cases kq with
            | zero => exact absurd HA.out (by simp [laws_FnExactTurnJumps.j2])
            | succ kj102 =>
             have H := HA.out
             clear HA
             simp only [laws_FnExactTurnJumps.j2] at H
             by_cases c146 : x87_102 = true
             ·subst c146
              have H1 : (some false) = some r := by rw [if_pos rfl] at H; exact H
              clear H
              have H := H1
              clear H1
              obtain rfl := Option.some.inj H
              go_wp2
              go_ret
              exact ⟨by first | rfl | (simp [errW_none, errW_some] <;> rfl) | (simp [*, errW_none, errW_some] <;> rfl), by exact belS⟩
             ·replace c146 := Bool.eq_false_iff.mpr c146
              subst c146
              have H1 : ((laws_heldBoard.f kj102 tC0 tC1 tC2 tCk 1).bind fun tCB => (if tCB < 0 then (some false) else (if tCB = tCj then (some true) else (some false)))) = some r := by rw [if_neg (show ¬ (false = true) by decide)] at H; exact H
              clear H
              have H := H1
              clear H1
              replace H := Option.bind_eq_some_iff.mp H
              obtain ⟨tCB, A1470, H⟩ := H
              replace H : (if tCB < 0 then (some false) else (if tCB = tCj then (some true) else (some false))) = some r := H
              have A147 := Aside0.mk A1470
              clear A1470
              by_cases c148 : tCB < 0
              ·rw [if_pos c148] at H
               have c148b0 : decide (tCB < 0) = true := decide_eq_true c148
               clear c148
               obtain rfl := Option.some.inj H
               have hnb149 := NBC7_BD.out
               have hnc149 := NBBD_C7.out
               have hnb150 := NBC7_BS.out
               have hnc150 := NBBS_C7.out
               have hnb151 := NBC7_BZ.out
               have hnc151 := NBBZ_C7.out
               have hnb152 := NBC7_Cz.out
               have hnc152 := NBCz_C7.out
               obtain ⟨hcz153_0, hcz153_1, hcz153_2, hcz153_3, hfz153_0, hfz153_1, hfz153_2, hfz153_3⟩ := blk4 BKC7.out
               go_wp2_with (first | ((with_reducible refine gate_callee (f := 48) rfl ?_); refine goesL_ (some 90) rfl rfl Try.func48 (by kernel_rfl) rfl #[.agg #[.int .i64 tC0, .int .i64 tC1, .int .i64 tC2, .slice Ao36 tCk.length co36], .int .i64 1] rfl argS ?_; (with_reducible refine (laws_heldBoard.calls kj102 tC0 tC1 tC2 _ _ tCk 1 tCB _ ?side1 ?side2 A147.out).mono ?_); (case side1 => exact Kd.C_up (Kd.R_reads' HO_C8003.out).2.2); (case side2 => exact (Kd.R_reads' HO_C8003.out).2.1); rintro e w154 ⟨rfl, hb⟩; refine ⟨_, rfl, ?_⟩; have n0_ := Aside0.mk (Kd.R_below (Kd.R_up HO_BT003.out) hb); have n1_ := Aside0.mk (Kd.R_below (Kd.R_up HO_C0003.out) hb); have n2_ := Aside0.mk (Kd.R_below (Kd.R_up HO_C8003.out) hb); have n3_ := Aside0.mk (Kd.R_below (Kd.R_up HO_CA003.out) hb); have n4_ := Aside0.mk (blk_below (blk_up BKBD.out) hb); have n5_ := Aside0.mk (blk_below (blk_up BKBS.out) hb); have n6_ := Aside0.mk (blk_below (blk_up BKBZ.out) hb); have n7_ := Aside0.mk (blk_below (blk_up BKC7.out) hb); have n8_ := Aside0.mk (blk_below (blk_up BKCz.out) hb); have n9_ := Aside0.mk (below_step belS hb); clear HO_BT003; clear HO_C0003; clear HO_C8003; clear HO_CA003; clear BKBD; clear BKBS; clear BKBZ; clear BKC7; clear BKCz; clear HB; have HO_BT003 := n0_; have HO_C0003 := n1_; have HO_C8003 := n2_; have HO_CA003 := n3_; have BKBD := n4_; have BKBS := n5_; have BKBZ := n6_; have BKC7 := n7_; have BKCz := n8_; have HB := n9_; clear n0_ n1_ n2_ n3_ n4_ n5_ n6_ n7_ n8_ n9_; (try clear hb); (try clear hb2); (try clear hk); (try clear hi)))
               go_ret
               exact ⟨by first | rfl | (simp [errW_none, errW_some] <;> rfl) | (simp [*, errW_none, errW_some] <;> rfl), by exact belS⟩
              ·rw [if_neg c148] at H
               have c148b0 : decide (tCB < 0) = false := decide_eq_false c148
               clear c148
               by_cases c155 : tCB = tCj
               ·rw [if_pos c155] at H
                have c155b0 : (tCB == tCj) = true := beq_iff_eq.mpr c155
                have c155b1 : (tCB != tCj) = false := bne_eq_false_iff_eq.mpr c155
                clear c155
                obtain rfl := Option.some.inj H
                have hnb156 := NBC7_BD.out
                have hnc156 := NBBD_C7.out
                have hnb157 := NBC7_BS.out
                have hnc157 := NBBS_C7.out
                have hnb158 := NBC7_BZ.out
                have hnc158 := NBBZ_C7.out
                have hnb159 := NBC7_Cz.out
                have hnc159 := NBCz_C7.out
                obtain ⟨hcz160_0, hcz160_1, hcz160_2, hcz160_3, hfz160_0, hfz160_1, hfz160_2, hfz160_3⟩ := blk4 BKC7.out
                go_wp2_with (first | ((with_reducible refine gate_callee (f := 48) rfl ?_); refine goesL_ (some 90) rfl rfl Try.func48 (by kernel_rfl) rfl #[.agg #[.int .i64 tC0, .int .i64 tC1, .int .i64 tC2, .slice Ao36 tCk.length co36], .int .i64 1] rfl argS ?_; (with_reducible refine (laws_heldBoard.calls kj102 tC0 tC1 tC2 _ _ tCk 1 tCB _ ?side1 ?side2 A147.out).mono ?_); (case side1 => exact Kd.C_up (Kd.R_reads' HO_C8003.out).2.2); (case side2 => exact (Kd.R_reads' HO_C8003.out).2.1); rintro e w161 ⟨rfl, hb⟩; refine ⟨_, rfl, ?_⟩; have n0_ := Aside0.mk (Kd.R_below (Kd.R_up HO_BT003.out) hb); have n1_ := Aside0.mk (Kd.R_below (Kd.R_up HO_C0003.out) hb); have n2_ := Aside0.mk (Kd.R_below (Kd.R_up HO_C8003.out) hb); have n3_ := Aside0.mk (Kd.R_below (Kd.R_up HO_CA003.out) hb); have n4_ := Aside0.mk (blk_below (blk_up BKBD.out) hb); have n5_ := Aside0.mk (blk_below (blk_up BKBS.out) hb); have n6_ := Aside0.mk (blk_below (blk_up BKBZ.out) hb); have n7_ := Aside0.mk (blk_below (blk_up BKC7.out) hb); have n8_ := Aside0.mk (blk_below (blk_up BKCz.out) hb); have n9_ := Aside0.mk (below_step belS hb); clear HO_BT003; clear HO_C0003; clear HO_C8003; clear HO_CA003; clear BKBD; clear BKBS; clear BKBZ; clear BKC7; clear BKCz; clear HB; have HO_BT003 := n0_; have HO_C0003 := n1_; have HO_C8003 := n2_; have HO_CA003 := n3_; have BKBD := n4_; have BKBS := n5_; have BKBZ := n6_; have BKC7 := n7_; have BKCz := n8_; have HB := n9_; clear n0_ n1_ n2_ n3_ n4_ n5_ n6_ n7_ n8_ n9_; (try clear hb); (try clear hb2); (try clear hk); (try clear hi)))
                go_ret
                exact ⟨by first | rfl | (simp [errW_none, errW_some] <;> rfl) | (simp [*, errW_none, errW_some] <;> rfl), by exact belS⟩
               ·rw [if_neg c155] at H
                have c155b0 : (tCB == tCj) = false := beq_eq_false_iff_ne.mpr c155
                have c155b1 : (tCB != tCj) = true := bne_iff_ne.mpr c155
                obtain rfl := Option.some.inj H
                have hnb162 := NBC7_BD.out
                have hnc162 := NBBD_C7.out
                have hnb163 := NBC7_BS.out
                have hnc163 := NBBS_C7.out
                have hnb164 := NBC7_BZ.out
                have hnc164 := NBBZ_C7.out
                have hnb165 := NBC7_Cz.out
                have hnc165 := NBCz_C7.out
                obtain ⟨hcz166_0, hcz166_1, hcz166_2, hcz166_3, hfz166_0, hfz166_1, hfz166_2, hfz166_3⟩ := blk4 BKC7.out
                go_wp2_with (first | ((with_reducible refine gate_callee (f := 48) rfl ?_); refine goesL_ (some 90) rfl rfl Try.func48 (by kernel_rfl) rfl #[.agg #[.int .i64 tC0, .int .i64 tC1, .int .i64 tC2, .slice Ao36 tCk.length co36], .int .i64 1] rfl argS ?_; (with_reducible refine (laws_heldBoard.calls kj102 tC0 tC1 tC2 _ _ tCk 1 tCB _ ?side1 ?side2 A147.out).mono ?_); (case side1 => exact Kd.C_up (Kd.R_reads' HO_C8003.out).2.2); (case side2 => exact (Kd.R_reads' HO_C8003.out).2.1); rintro e w167 ⟨rfl, hb⟩; refine ⟨_, rfl, ?_⟩; have n0_ := Aside0.mk (Kd.R_below (Kd.R_up HO_BT003.out) hb); have n1_ := Aside0.mk (Kd.R_below (Kd.R_up HO_C0003.out) hb); have n2_ := Aside0.mk (Kd.R_below (Kd.R_up HO_C8003.out) hb); have n3_ := Aside0.mk (Kd.R_below (Kd.R_up HO_CA003.out) hb); have n4_ := Aside0.mk (blk_below (blk_up BKBD.out) hb); have n5_ := Aside0.mk (blk_below (blk_up BKBS.out) hb); have n6_ := Aside0.mk (blk_below (blk_up BKBZ.out) hb); have n7_ := Aside0.mk (blk_below (blk_up BKC7.out) hb); have n8_ := Aside0.mk (blk_below (blk_up BKCz.out) hb); have n9_ := Aside0.mk (below_step belS hb); clear HO_BT003; clear HO_C0003; clear HO_C8003; clear HO_CA003; clear BKBD; clear BKBS; clear BKBZ; clear BKC7; clear BKCz; clear HB; have HO_BT003 := n0_; have HO_C0003 := n1_; have HO_C8003 := n2_; have HO_CA003 := n3_; have BKBD := n4_; have BKBS := n5_; have BKBZ := n6_; have BKC7 := n7_; have BKCz := n8_; have HB := n9_; clear n0_ n1_ n2_ n3_ n4_ n5_ n6_ n7_ n8_ n9_; (try clear hb); (try clear hb2); (try clear hk); (try clear hi)))
                go_ret
                exact ⟨by first | rfl | (simp [errW_none, errW_some] <;> rfl) | (simp [*, errW_none, errW_some] <;> rfl), by exact belS⟩
          ·rw [if_neg c100] at H
           have c100b0 : (tCl == tCj) = false := beq_eq_false_iff_ne.mpr c100
           have c100b1 : (tCl != tCj) = true := bne_iff_ne.mpr c100
           obtain rfl := Option.some.inj H
           have hnb168 := NBC7_BD.out
           have hnc168 := NBBD_C7.out
           have hnb169 := NBC7_BS.out
           have hnc169 := NBBS_C7.out
           have hnb170 := NBC7_BZ.out
           have hnc170 := NBBZ_C7.out
           obtain ⟨hcz171_0, hcz171_1, hcz171_2, hcz171_3, hfz171_0, hfz171_1, hfz171_2, hfz171_3⟩ := blk4 BKC7.out
           go_wp2_with (first | ((with_reducible refine gate_callee (f := 47) rfl ?_); refine goesL_ (some 64) rfl rfl Try.func47 (by kernel_rfl) rfl #[.agg #[.int .i64 tC0, .int .i64 tC1, .int .i64 tC2, .slice Ao36 tC3.length co36], .int .i64 1] rfl argS ?_; (with_reducible refine (laws_markBoard.calls kj59 tC0 tC1 tC2 (fun k_ => some k_ = (.slice Ao36 tC3.length co36 : Value).ownBlock) (.slice Ao36 tC3.length co36) tC3 1 tCj tCk w _ ?side1 ?side2 A90.out).mono ?_); (case side1 => exact belS); (case side2 => exact Kd.R_tight rfl HO_C8003.out); rintro e w172 ⟨rfl, hy0, hb, hkp⟩; refine ⟨_, rfl, ?_⟩; have n0_ := Aside0.mk (Kd.R_mono (ok' := fun k_ => some k_ ≠ (.slice Ao29 tCh.length co29 : Value).ownBlock ∧ some k_ ≠ (.slice Ao36 tC3.length co36 : Value).ownBlock) (Kd.R_keptB (HO_BT003.out) hkp (fun k_ hk_ hs_ => (hk_.2) hs_)) (fun k_ hk_ => ⟨hk_.1.1, hk_.1.2⟩)); have n1_ := Aside0.mk (Kd.R_mono (ok' := fun k_ => some k_ ≠ (.slice Ao22 tBO.length co22 : Value).ownBlock ∧ some k_ ≠ (.slice Ao36 tC3.length co36 : Value).ownBlock) (Kd.R_keptB (HO_C0003.out) hkp (fun k_ hk_ hs_ => (hk_.2) hs_)) (fun k_ hk_ => ⟨hk_.1.1, hk_.1.2⟩)); have n2_ := Aside0.mk (Kd.R_reok rfl hy0 (fun k_ e_ => HO_C8003.out.1 k_ e_)); have n3_ := Aside0.mk (blk_kept (blk_up BKBD.out) hkp (fun hs_ => (fun e_ => (Kd.R_ne HO_C8003.out BKBD.out (by decide)) e_) hs_)); have n4_ := Aside0.mk (blk_kept (blk_up BKBS.out) hkp (fun hs_ => (fun e_ => (Kd.R_ne HO_C8003.out BKBS.out (by decide)) e_) hs_)); have n5_ := Aside0.mk (blk_kept (blk_up BKBZ.out) hkp (fun hs_ => (fun e_ => (Kd.R_ne HO_C8003.out BKBZ.out (by decide)) e_) hs_)); have n6_ := Aside0.mk (blk_kept (blk_up BKC7.out) hkp (fun hs_ => (fun e_ => (Kd.R_ne HO_C8003.out BKC7.out (by decide)) e_) hs_)); have n7_ := Aside0.mk (hb); clear HO_BT003; clear HO_C0003; clear HO_C8003; clear BKBD; clear BKBS; clear BKBZ; clear BKC7; clear HB; have HO_BT003 := n0_; have HO_C0003 := n1_; have HO_C8003 := n2_; have BKBD := n3_; have BKBS := n4_; have BKBZ := n5_; have BKC7 := n6_; have HB := n7_; clear n0_ n1_ n2_ n3_ n4_ n5_ n6_ n7_; (try clear hb); (try clear hkp); (try clear hy0); obtain ⟨hcz173_0, hcz173_1, hcz173_2, hcz173_3, hfz173_0, hfz173_1, hfz173_2, hfz173_3⟩ := blk4 BKC7.out) | ((with_reducible refine gate_callee (f := 48) rfl ?_); refine goesL_ (some 67) rfl rfl Try.func48 (by kernel_rfl) rfl #[.agg #[.int .i64 tC0, .int .i64 tC1, .int .i64 tC2, .slice Ao36 tCk.length co36], .int .i64 1] rfl (by (try simp only [List.map_toArray, List.map_cons, List.map_nil]); first | done | (rw [show tCk.length = tC3.length from (Kd.R_reads' HO_C8003.out).1.symm] <;> rfl) | rfl | (simp only [List.length_drop, List.length_take]; rfl)) ?_; (with_reducible refine (laws_heldBoard.calls kj59 tC0 tC1 tC2 _ _ tCk 1 tCl _ ?side1 ?side2 A91.out).mono ?_); (case side1 => exact Kd.C_up (Kd.R_reads' HO_C8003.out).2.2); (case side2 => rw [show tCk.length = tC3.length from (Kd.R_reads' HO_C8003.out).1.symm]; exact (Kd.R_reads' HO_C8003.out).2.1); rintro e w174 ⟨rfl, hb⟩; refine ⟨_, rfl, ?_⟩; have n0_ := Aside0.mk (Kd.R_below (Kd.R_up HO_BT003.out) hb); have n1_ := Aside0.mk (Kd.R_below (Kd.R_up HO_C0003.out) hb); have n2_ := Aside0.mk (Kd.R_below (Kd.R_up HO_C8003.out) hb); have n3_ := Aside0.mk (blk_below (blk_up BKBD.out) hb); have n4_ := Aside0.mk (blk_below (blk_up BKBS.out) hb); have n5_ := Aside0.mk (blk_below (blk_up BKBZ.out) hb); have n6_ := Aside0.mk (blk_below (blk_up BKC7.out) hb); have n7_ := Aside0.mk (below_step belS hb); clear HO_BT003; clear HO_C0003; clear HO_C8003; clear BKBD; clear BKBS; clear BKBZ; clear BKC7; clear HB; have HO_BT003 := n0_; have HO_C0003 := n1_; have HO_C8003 := n2_; have BKBD := n3_; have BKBS := n4_; have BKBZ := n5_; have BKC7 := n6_; have HB := n7_; clear n0_ n1_ n2_ n3_ n4_ n5_ n6_ n7_; (try clear hb); (try clear hb2); (try clear hk); (try clear hi)))
           go_ret
           exact ⟨by first | rfl | (simp [errW_none, errW_some] <;> rfl) | (simp [*, errW_none, errW_some] <;> rfl), by exact belS⟩
     ·replace c58 := Bool.eq_false_iff.mpr c58
      subst c58
      have H1 : (some false) = some r := by rw [if_neg (show ¬ (false = true) by decide)] at H; exact H
      clear H
      have H := H1
      clear H1
      obtain rfl := Option.some.inj H
      try go_wp2
      have n0_ := Aside0.mk (Kd.R_drew HO_BT003.out)
      have n1_ := Aside0.mk (Kd.R_drew HO_C0003.out)
      have n2_ := Aside0.mk (Kd.R_drew HO_C8003.out)
      have n3_ := Aside0.mk (blk_drew BKBD.out)
      have n4_ := Aside0.mk (blk_drew BKBS.out)
      have n5_ := Aside0.mk (blk_drew BKBZ.out)
      have n6_ := Aside0.mk (blk_drew BKC7.out)
      have n7_ := Aside0.mk (below_drew1 HB.out)
      clear HO_BT003
      clear HO_C0003
      clear HO_C8003
      clear BKBD
      clear BKBS
      clear BKBZ
      clear BKC7
      clear HB
      have HO_BT003 := n0_
      have HO_C0003 := n1_
      have HO_C8003 := n2_
      have BKBD := n3_
      have BKBS := n4_
      have BKBZ := n5_
      have BKC7 := n6_
      have HB := n7_
      clear n0_ n1_ n2_ n3_ n4_ n5_ n6_ n7_
      refine start_ (n := 5) (S := fun w' => w'.cell? ⟨gbBZ, 0, none⟩ = some (.int .i64 tBT) ∧ w'.cell? ⟨gbBZ, 1, none⟩ = some (.int .i64 tBU) ∧ w'.cell? ⟨gbBZ, 2, none⟩ = some (.int .i64 tBV) ∧ w'.cell? ⟨gbBZ, 3, none⟩ = some (.slice Ao29 tBW.length co29) ∧ w'.cell? ⟨gbBD, 0, none⟩ = some (.int .i64 a0_0) ∧ w'.cell? ⟨gbBD, 1, none⟩ = some (.int .i64 a0_1) ∧ w'.cell? ⟨gbBD, 2, none⟩ = some (.int .i64 a0_2) ∧ w'.cell? ⟨gbBD, 3, none⟩ = some (.slice A0_3 l0_3.length c0_3)) (ds := []) #[false, false, false, false, false] (by kernel_rfl) rfl rfl ⟨(blk_cell BKBZ.out 0).trans rfl, (blk_cell BKBZ.out 1).trans rfl, (blk_cell BKBZ.out 2).trans rfl, (blk_cell BKBZ.out 3).trans rfl, (blk_cell BKBD.out 0).trans rfl, (blk_cell BKBD.out 1).trans rfl, (blk_cell BKBD.out 2).trans rfl, (blk_cell BKBD.out 3).trans rfl⟩ (fun hHeld => ?_)
      generalize wc.drew = w175 at HO_BT003 HO_C0003 HO_C8003 BKBD BKBS BKBZ BKC7 HB hHeld ⊢
      refine take_ (i := 0) (N := some 41) (v := ?_) (a' := ?_) #[true, false, false, false, false] rfl rfl (by kernel_rfl) (fun _ _ _ h => h) (Or.inl ⟨by rfl, ?_⟩) hHeld ?_ ?_
      rotate_left
      ·rintro w' ⟨s0, s1, s2, s3, s4, s5, s6, s7⟩
       go_simp
       with_reducible rfl
      rotate_left
      ·simp only [Act.put, List.setIfInBounds_toArray, List.set_cons_zero, List.set_cons_succ, i64_w, i32_w]
       rfl
      refine take_ (i := 1) (N := some 42) (v := ?_) (a' := ?_) #[true, true, false, false, false] rfl rfl (by kernel_rfl) (fun _ _ _ h => h) (Or.inl ⟨by rfl, ?_⟩) hHeld ?_ ?_
      rotate_left
      ·rintro w' ⟨s0, s1, s2, s3, s4, s5, s6, s7⟩
       go_simp
       with_reducible rfl
      rotate_left
      ·simp only [Act.put, List.setIfInBounds_toArray, List.set_cons_zero, List.set_cons_succ, i64_w, i32_w]
       rfl
      refine one_ (i := 2) (N := some 43) #[true, true, true, false, false] rfl rfl (by kernel_rfl) (by decide) (fun K hK => ?_)
      refine goes_ Try.func39 (by kernel_rfl) rfl #[.agg #[.int .i64 a0_0, .int .i64 a0_1, .int .i64 a0_2, .slice A0_3 l0_3.length c0_3]] (by rfl) rfl rfl argS ?_
      with_reducible refine (laws_toBoard.calls kj10 a0_0 a0_1 a0_2 _ _ l0_3 tC9 tCa tCb tCc _ ?side1 ?side2 A56.out).mono ?_
      (case side1 => exact Kd.C_up (Kd.C_below HR0_3.out HB.out))
      (case side2 => exact HC0_3.out)
      rintro e w176 ⟨vCd, rfl, ho0, hb⟩
      refine ⟨_, rfl, ?_⟩
      have n0_ := Aside0.mk (Kd.R_elder' (Kd.R_up HO_BT003.out) (Kd.R_base ho0) hb)
      have n1_ := Aside0.mk (Kd.R_elder' (Kd.R_up HO_C0003.out) (Kd.R_base ho0) hb)
      have n2_ := Aside0.mk (Kd.R_elder' (Kd.R_up HO_C8003.out) (Kd.R_base ho0) hb)
      have n3_ := Aside0.mk (Kd.R_lower (Kd.R_new' (Kd.R_new' (Kd.R_new' ho0 (Kd.R_lt (Kd.R_up HO_BT003.out))) (Kd.R_lt (Kd.R_up HO_C0003.out))) (Kd.R_lt (Kd.R_up HO_C8003.out))) (below_size belS))
      have n4_ := Aside0.mk (blk_below (blk_up BKBD.out) hb)
      have n5_ := Aside0.mk (blk_below (blk_up BKBS.out) hb)
      have n6_ := Aside0.mk (blk_below (blk_up BKBZ.out) hb)
      have n7_ := Aside0.mk (blk_below (blk_up BKC7.out) hb)
      have n8_ := Aside0.mk (below_step belS hb)
      clear HO_BT003
      clear HO_C0003
      clear HO_C8003
      clear BKBD
      clear BKBS
      clear BKBZ
      clear BKC7
      clear HB
      have HO_BT003 := n0_
      have HO_C0003 := n1_
      have HO_C8003 := n2_
      have HOCe := n3_
      have BKBD := n4_
      have BKBS := n5_
      have BKBZ := n6_
      have BKC7 := n7_
      have HB := n8_
      clear n0_ n1_ n2_ n3_ n4_ n5_ n6_ n7_ n8_
      (try clear hb)
      (try clear hb2)
      (try clear hk)
      (try clear hi)
      (try clear ho0)
      obtain ⟨Ao177, co177, eo177⟩ := Kd.R_slice HOCe.out
      (first | subst eo177 | (injection eo177 with f1_ f2_ f3_; have f4_ := f1_.symm; have f5_ := f3_.symm; clear f1_ f2_ f3_; subst f4_; subst f5_))
      refine hK.out _ _ ⟨(blk_cell BKBZ.out 0).trans rfl, (blk_cell BKBZ.out 1).trans rfl, (blk_cell BKBZ.out 2).trans rfl, (blk_cell BKBZ.out 3).trans rfl, (blk_cell BKBD.out 0).trans rfl, (blk_cell BKBD.out 1).trans rfl, (blk_cell BKBD.out 2).trans rfl, (blk_cell BKBD.out 3).trans rfl⟩ (fun hHeld => ?_)
      clear hK K
      refine norm_ (a' := ?_) ?_ ?_
      rotate_left
      ·show Act.put _ (some 43) _ = _
       simp only [Act.put, List.setIfInBounds_toArray, List.set_cons_zero, List.set_cons_succ, i64_w, i32_w]
       rfl
      refine one_ (i := 3) (N := some 44) #[true, true, true, true, false] rfl rfl (by kernel_rfl) (by decide) (fun K hK => ?_)
      refine goes_ Try.func42 (by kernel_rfl) rfl #[.agg #[.int .i64 tBT, .int .i64 tBU, .int .i64 tBV, .slice Ao29 tBW.length co29], .agg #[.int .i64 tC9, .int .i64 tCa, .int .i64 tCb, .slice Ao177 tCc.length co177]] (by rfl) rfl rfl argS ?_
      with_reducible refine (laws_eqBoard.calls kj10 tBT tBU tBV _ _ tBW tC9 tCa tCb _ _ tCc false _ ?side1 ?side2 ?side3 ?side4 A57.out).mono ?_
      (case side1 => exact Kd.C_up (Kd.R_reads' HO_C0003.out).2.2)
      (case side2 => exact (Kd.R_reads' HO_C0003.out).2.1)
      (case side3 => exact Kd.C_up (Kd.R_reads' HOCe.out).2.2)
      (case side4 => exact (Kd.R_reads' HOCe.out).2.1)
      rintro e w178 ⟨rfl, hb⟩
      refine ⟨_, rfl, ?_⟩
      have n0_ := Aside0.mk (Kd.R_below (Kd.R_up HO_BT003.out) hb)
      have n1_ := Aside0.mk (Kd.R_below (Kd.R_up HO_C0003.out) hb)
      have n2_ := Aside0.mk (Kd.R_below (Kd.R_up HO_C8003.out) hb)
      have n3_ := Aside0.mk (Kd.R_below (Kd.R_up HOCe.out) hb)
      have n4_ := Aside0.mk (blk_below (blk_up BKBD.out) hb)
      have n5_ := Aside0.mk (blk_below (blk_up BKBS.out) hb)
      have n6_ := Aside0.mk (blk_below (blk_up BKBZ.out) hb)
      have n7_ := Aside0.mk (blk_below (blk_up BKC7.out) hb)
      have n8_ := Aside0.mk (below_step belS hb)
      clear HO_BT003
      clear HO_C0003
      clear HO_C8003
      clear HOCe
      clear BKBD
      clear BKBS
      clear BKBZ
      clear BKC7
      clear HB
      have HO_BT003 := n0_
      have HO_C0003 := n1_
      have HO_C8003 := n2_
      have HOCe := n3_
      have BKBD := n4_
      have BKBS := n5_
      have BKBZ := n6_
      have BKC7 := n7_
      have HB := n8_
      clear n0_ n1_ n2_ n3_ n4_ n5_ n6_ n7_ n8_
      (try clear hb)
      (try clear hb2)
      (try clear hk)
      (try clear hi)
      refine hK.out _ _ ⟨(blk_cell BKBZ.out 0).trans rfl, (blk_cell BKBZ.out 1).trans rfl, (blk_cell BKBZ.out 2).trans rfl, (blk_cell BKBZ.out 3).trans rfl, (blk_cell BKBD.out 0).trans rfl, (blk_cell BKBD.out 1).trans rfl, (blk_cell BKBD.out 2).trans rfl, (blk_cell BKBD.out 3).trans rfl⟩ (fun hHeld => ?_)
      clear hK K
      refine norm_ (a' := ?_) ?_ ?_
      rotate_left
      ·show Act.put _ (some 44) _ = _
       simp only [Act.put, List.setIfInBounds_toArray, List.set_cons_zero, List.set_cons_succ, i64_w, i32_w]
       rfl
      refine pure_ (i := 4) (N := some 45) (v := ?_) (a' := ?_) #[true, true, true, true, true] rfl rfl (by kernel_rfl) (fun _ _ _ h => h) (Or.inl ⟨by rfl, ?_⟩) ?_ ?_
      rotate_left
      ·intro w'
       go_simp
       with_reducible rfl
      rotate_left
      ·simp only [Act.put, List.setIfInBounds_toArray, List.set_cons_zero, List.set_cons_succ, i64_w, i32_w]
       rfl
      refine done_ (by kernel_rfl) ?_
      try go_wp2
      go_ret
      exact ⟨by first | rfl | (simp [errW_none, errW_some] <;> rfl) | (simp [*, errW_none, errW_some] <;> rfl), by exact belS⟩

end Go.Proofs.Ytkobjjadojpjfaa.Pr
