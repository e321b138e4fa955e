-- A text of the machine side, written by wip/gen.py of this repo out of the translation. Not trusted: Lean checks it.
import Derived.Test.YtkobjjadojpjfaaF0
import Derived.Test.YtkobjjadojpjfaaFGA
import Derived.Test.YtkobjjadojpjfaaFGH
import Derived.Test.YtkobjjadojpjfaaFGM
import Derived.Test.YtkobjjadojpjfaaFSpecDropJump
import Derived.Test.YtkobjjadojpjfaaHDrop
namespace Go.Proofs.Ytkobjjadojpjfaa.Pr
open Go.RowKit Go.Proofs.YtkobjjadojpjfaaW.PrintWords Go.Proofs.YtkobjjadojpjfaaW.PrintLast Go.Proofs.YtkobjjadojpjfaaW.PrintMore
attribute [local go_sem] max2_int min2_int max_two min_two max_three min_three max_four min_four   -- for this text's walks alone
set_option linter.unusedVariables false
set_option linter.unusedSimpArgs false

/-! ### laws_FnExactDropJump: function 31 -/
mutual
def laws_FnExactDropJump.j0 : Nat → Int → Bool → Bool → Bool → Int → Int → Int → List (S82) → Int → Int → Int → List (S27) → Int → Int → Int → List (S27) → Int → Int → Int → List (S27) → Option (Bool)
 | 0, _, _, _, _, _, _, _, _, _, _, _, _, _, _, _, _, _, _, _, _ => none
 | k + 1, x1, x7, x10, x44, xBE000, xBE001, xBE002, xBE003, xBT000, xBT001, xBT002, xBT003, xC0000, xC0001, xC0002, xC0003, xC8000, xC8001, xC8002, xC8003 => if x44 = true then (some false) else ((laws_toBoard.f k xBE000 xBE001 xBE002 xBE003).bind fun btC9 => ((laws_eqBoard.f k xC0000 xC0001 xC0002 xC0003 btC9.1 btC9.2.1 btC9.2.2.1 btC9.2.2.2).bind fun tCf => (if tCf = true then ((laws_markBoard.f k xC0000 xC0001 xC0002 xC0003 1).bind fun btCg => (if btCg.1 < 0 then (laws_FnExactDropJump.j1 k x1 x7 true xBE000 xBE001 xBE002 xBE003 xBT000 xBT001 xBT002 xBT003 xC8000 xC8001 xC8002 xC8003) else ((laws_eqBoard.f k xC8000 xC8001 xC8002 xC8003 xBT000 xBT001 xBT002 xBT003).bind fun tCi => (if tCi = true then (laws_FnExactDropJump.j1 k x1 x7 (x10 != x7) xBE000 xBE001 xBE002 xBE003 xBT000 xBT001 xBT002 xBT003 xC8000 xC8001 xC8002 xC8003) else (laws_FnExactDropJump.j1 k x1 x7 true xBE000 xBE001 xBE002 xBE003 xBT000 xBT001 xBT002 xBT003 xC8000 xC8001 xC8002 xC8003))))) else (some false))))
def laws_FnExactDropJump.j1 : Nat → Int → Bool → Bool → Int → Int → Int → List (S82) → Int → Int → Int → List (S27) → Int → Int → Int → List (S27) → Option (Bool)
 | 0, _, _, _, _, _, _, _, _, _, _, _, _, _, _, _ => none
 | k + 1, x1, x7, x65, xBE000, xBE001, xBE002, xBE003, xBT000, xBT001, xBT002, xBT003, xC8000, xC8001, xC8002, xC8003 => if x65 = true then (some false) else ((laws_markBoard.f k xC8000 xC8001 xC8002 xC8003 1).bind fun btCj => ((laws_heldBoard.f k xC8000 xC8001 xC8002 btCj.2 1).bind fun tCl => (if tCl < 0 then (some false) else (if tCl = btCj.1 then ((laws_toBoard.f k xBE000 xBE001 xBE002 xBE003).bind fun btCm => ((impl_DropJump.f k btCm.1 btCm.2.1 btCm.2.2.1 btCm.2.2.2 x1).bind fun btCs => ((laws_eqBoard.f k btCs.1 btCs.2.1 btCs.2.2.1 btCs.2.2.2.1 xBT000 xBT001 xBT002 xBT003).bind fun tCA => (if tCA = true then (laws_FnExactDropJump.j2 k btCj.1 (btCs.2.2.2.2 != x7) xC8000 xC8001 xC8002 btCj.2) else (laws_FnExactDropJump.j2 k btCj.1 true xC8000 xC8001 xC8002 btCj.2))))) else (some false)))))
def laws_FnExactDropJump.j2 : Nat → Int → Bool → Int → Int → Int → List (S27) → Option (Bool)
 | 0, _, _, _, _, _, _ => none
 | k + 1, x12, x92, xC8000, xC8001, xC8002, xC8003 => if x92 = true then (some false) else ((laws_heldBoard.f k xC8000 xC8001 xC8002 xC8003 1).bind fun tCB => (if tCB < 0 then (some false) else (if tCB = x12 then (some true) else (some false))))
end
def laws_FnExactDropJump.f (k : Nat) (a0_0 : Int) (a0_1 : Int) (a0_2 : Int) (l0_3 : List (S82)) (a1 : Int) : Option (Bool) := (laws_szBoard.f a0_0 a0_1 a0_2 l0_3 1048576).bind fun tBE => (if tBE < 0 then (some true) else ((laws_toBoard.f k a0_0 a0_1 a0_2 l0_3).bind fun btBF => ((spec_DropJump.f k btBF.1 btBF.2.1 btBF.2.2.1 btBF.2.2.2 a1).bind fun btBL => ((laws_toBoard.f k a0_0 a0_1 a0_2 l0_3).bind fun btBT => ((impl_DropJump.f k btBT.1 btBT.2.1 btBT.2.2.1 btBT.2.2.2 a1).bind fun btC0 => ((laws_eqBoard.f k btC0.1 btC0.2.1 btC0.2.2.1 btC0.2.2.2.1 btBL.1 btBL.2.1 btBL.2.2.1 btBL.2.2.2.1).bind fun tC8 => (if tC8 = true then (laws_FnExactDropJump.j0 k a1 btBL.2.2.2.2 btC0.2.2.2.2 (btC0.2.2.2.2 != btBL.2.2.2.2) a0_0 a0_1 a0_2 l0_3 btBL.1 btBL.2.1 btBL.2.2.1 btBL.2.2.2.1 btBT.1 btBT.2.1 btBT.2.2.1 btBT.2.2.2 btC0.1 btC0.2.1 btC0.2.2.1 btC0.2.2.2.1) else (laws_FnExactDropJump.j0 k a1 btBL.2.2.2.2 btC0.2.2.2.2 true a0_0 a0_1 a0_2 l0_3 btBL.1 btBL.2.1 btBL.2.2.1 btBL.2.2.2.1 btBT.1 btBT.2.1 btBT.2.2.1 btBT.2.2.2 btC0.1 btC0.2.1 btC0.2.2.1 btC0.2.2.2.1))))))))
set_option maxHeartbeats 8000000 in
set_option maxRecDepth 100000 in
theorem laws_FnExactDropJump.calls (k : Nat) (a0_0 : Int) (a0_1 : Int) (a0_2 : Int) (A0_3 : Option Addr) (c0_3 : Nat) (l0_3 : List (S82)) (a1 : Int) (r : Bool) (w : World) (hr0_3 : Kd.C k82 w A0_3 l0_3.length l0_3) (hc0_3 : l0_3.length ≤ c0_3) (h : laws_FnExactDropJump.f k a0_0 a0_1 a0_2 l0_3 a1 = some r) :
  Calls Try.prog 31 #[.agg #[.int .i64 a0_0, .int .i64 a0_1, .int .i64 a0_2, .slice A0_3 l0_3.length c0_3], .int .i64 a1] w fun e w' => e = .returned (.bool r) ∧ Below w.heap.size w w' := by
 have hu24 := Try.underlying24
 have hu32 := Try.underlying32
 have HR0_3 := Aside0.mk hr0_3
 have HC0_3 := Aside0.mk hc0_3
 clear hr0_3 hc0_3
 have HB := Aside0.mk (Below.refl w.heap.size w)
 have H : ((laws_szBoard.f a0_0 a0_1 a0_2 l0_3 1048576).bind fun tBE => (if tBE < 0 then (some true) else ((laws_toBoard.f k a0_0 a0_1 a0_2 l0_3).bind fun btBF => ((spec_DropJump.f k btBF.1 btBF.2.1 btBF.2.2.1 btBF.2.2.2 a1).bind fun btBL => ((laws_toBoard.f k a0_0 a0_1 a0_2 l0_3).bind fun btBT => ((impl_DropJump.f k btBT.1 btBT.2.1 btBT.2.2.1 btBT.2.2.2 a1).bind fun btC0 => ((laws_eqBoard.f k btC0.1 btC0.2.1 btC0.2.2.1 btC0.2.2.2.1 btBL.1 btBL.2.1 btBL.2.2.1 btBL.2.2.2.1).bind fun tC8 => (if tC8 = true then (laws_FnExactDropJump.j0 k a1 btBL.2.2.2.2 btC0.2.2.2.2 (btC0.2.2.2.2 != btBL.2.2.2.2) a0_0 a0_1 a0_2 l0_3 btBL.1 btBL.2.1 btBL.2.2.1 btBL.2.2.2.1 btBT.1 btBT.2.1 btBT.2.2.1 btBT.2.2.2 btC0.1 btC0.2.1 btC0.2.2.1 btC0.2.2.2.1) else (laws_FnExactDropJump.j0 k a1 btBL.2.2.2.2 btC0.2.2.2.2 true a0_0 a0_1 a0_2 l0_3 btBL.1 btBL.2.1 btBL.2.2.1 btBL.2.2.2.1 btBT.1 btBT.2.1 btBT.2.2.1 btBT.2.2.2 btC0.1 btC0.2.1 btC0.2.2.1 btC0.2.2.2.1))))))))) = some r := h
 clear h
 replace H := Option.bind_eq_some_iff.mp H
 obtain ⟨tBE, A30, H⟩ := H
 replace H : (if tBE < 0 then (some true) else ((laws_toBoard.f k a0_0 a0_1 a0_2 l0_3).bind fun btBF => ((spec_DropJump.f k btBF.1 btBF.2.1 btBF.2.2.1 btBF.2.2.2 a1).bind fun btBL => ((laws_toBoard.f k a0_0 a0_1 a0_2 l0_3).bind fun btBT => ((impl_DropJump.f k btBT.1 btBT.2.1 btBT.2.2.1 btBT.2.2.2 a1).bind fun btC0 => ((laws_eqBoard.f k btC0.1 btC0.2.1 btC0.2.2.1 btC0.2.2.2.1 btBL.1 btBL.2.1 btBL.2.2.1 btBL.2.2.2.1).bind fun tC8 => (if tC8 = true then (laws_FnExactDropJump.j0 k a1 btBL.2.2.2.2 btC0.2.2.2.2 (btC0.2.2.2.2 != btBL.2.2.2.2) a0_0 a0_1 a0_2 l0_3 btBL.1 btBL.2.1 btBL.2.2.1 btBL.2.2.2.1 btBT.1 btBT.2.1 btBT.2.2.1 btBT.2.2.2 btC0.1 btC0.2.1 btC0.2.2.1 btC0.2.2.2.1) else (laws_FnExactDropJump.j0 k a1 btBL.2.2.2.2 btC0.2.2.2.2 true a0_0 a0_1 a0_2 l0_3 btBL.1 btBL.2.1 btBL.2.2.1 btBL.2.2.2.1 btBT.1 btBT.2.1 btBT.2.2.1 btBT.2.2.2 btC0.1 btC0.2.1 btC0.2.2.1 btC0.2.2.2.1)))))))) = some r := H
 have A3 := Aside0.mk A30
 clear A30
 by_cases c4 : tBE < 0
 ·rw [if_pos c4] at H
  have c4b0 : decide (tBE < 0) = true := decide_eq_true c4
  clear c4
  obtain rfl := Option.some.inj H
  go_enter Try.func31, Try.ntmps31
  go_wp2_with (first | ((with_reducible refine gate_dst (N := 2) rfl ?_); refine box_event ?hg (N := 2) ?hd (cs := #[.int .i64 a0_0, .int .i64 a0_1, .int .i64 a0_2, .slice A0_3 l0_3.length c0_3]) (t := 24) ?hr ?_; (case hd => rfl); (case hg => rfl); (case hr => first | (go_simp; done) | (go_simp; rfl)); intro gbBD hg w5 hbox hb; have n0_ := Aside0.mk (below_step belS hb); have n1_ := Aside0.mk (hbox); have n2_ := Aside0.mk ((by rw [hg]; exact (below_size belS) : w.heap.size ≤ gbBD)); have n3_ := n2_; clear HB; have HB := n0_; have BKBD := n1_; have GWBD := n2_; have GEBD := n3_; clear n0_ n1_ n2_ n3_; clear hb hbox hg; obtain ⟨hcz6_0, hcz6_1, hcz6_2, hcz6_3, hfz6_0, hfz6_1, hfz6_2, hfz6_3⟩ := blk4 BKBD.out) | ((with_reducible refine gate_callee (f := 37) rfl ?_); refine goesL_ (some 18) rfl rfl Try.func37 (by kernel_rfl) rfl #[.agg #[.int .i64 a0_0, .int .i64 a0_1, .int .i64 a0_2, .slice A0_3 l0_3.length c0_3], .int .i64 1048576] rfl argS ?_; (with_reducible refine (laws_szBoard.calls a0_0 a0_1 a0_2 _ _ l0_3 1048576 tBE _ ?side1 ?side2 A3.out).mono ?_); (case side1 => exact Kd.C_up (Kd.C_below HR0_3.out HB.out)); (case side2 => exact HC0_3.out); rintro e w7 ⟨rfl, hb⟩; refine ⟨_, rfl, ?_⟩; have n0_ := Aside0.mk (blk_below (blk_up BKBD.out) hb); have n1_ := Aside0.mk (below_step belS hb); clear BKBD; clear HB; have BKBD := n0_; have HB := n1_; clear n0_ n1_; (try clear hb); (try clear hb2); (try clear hk); (try clear hi)))
  go_ret
  exact ⟨by first | rfl | (simp [errW_none, errW_some] <;> rfl) | (simp [*, errW_none, errW_some] <;> rfl), by exact belS⟩
 ·rw [if_neg c4] at H
  have c4b0 : decide (tBE < 0) = false := decide_eq_false c4
  clear c4
  replace H := Option.bind_eq_some_iff.mp H
  obtain ⟨⟨tBF, tBG, tBH, tBI⟩, A80, H⟩ := H
  replace H : ((spec_DropJump.f k tBF tBG tBH tBI a1).bind fun btBL => ((laws_toBoard.f k a0_0 a0_1 a0_2 l0_3).bind fun btBT => ((impl_DropJump.f k btBT.1 btBT.2.1 btBT.2.2.1 btBT.2.2.2 a1).bind fun btC0 => ((laws_eqBoard.f k btC0.1 btC0.2.1 btC0.2.2.1 btC0.2.2.2.1 btBL.1 btBL.2.1 btBL.2.2.1 btBL.2.2.2.1).bind fun tC8 => (if tC8 = true then (laws_FnExactDropJump.j0 k a1 btBL.2.2.2.2 btC0.2.2.2.2 (btC0.2.2.2.2 != btBL.2.2.2.2) a0_0 a0_1 a0_2 l0_3 btBL.1 btBL.2.1 btBL.2.2.1 btBL.2.2.2.1 btBT.1 btBT.2.1 btBT.2.2.1 btBT.2.2.2 btC0.1 btC0.2.1 btC0.2.2.1 btC0.2.2.2.1) else (laws_FnExactDropJump.j0 k a1 btBL.2.2.2.2 btC0.2.2.2.2 true a0_0 a0_1 a0_2 l0_3 btBL.1 btBL.2.1 btBL.2.2.1 btBL.2.2.2.1 btBT.1 btBT.2.1 btBT.2.2.1 btBT.2.2.2 btC0.1 btC0.2.1 btC0.2.2.1 btC0.2.2.2.1)))))) = some r := H
  have A8 := Aside0.mk A80
  clear A80
  replace H := Option.bind_eq_some_iff.mp H
  obtain ⟨⟨tBL, tBM, tBN, tBO, tBR⟩, A90, H⟩ := H
  replace H : ((laws_toBoard.f k a0_0 a0_1 a0_2 l0_3).bind fun btBT => ((impl_DropJump.f k btBT.1 btBT.2.1 btBT.2.2.1 btBT.2.2.2 a1).bind fun btC0 => ((laws_eqBoard.f k btC0.1 btC0.2.1 btC0.2.2.1 btC0.2.2.2.1 tBL tBM tBN tBO).bind fun tC8 => (if tC8 = true then (laws_FnExactDropJump.j0 k a1 tBR btC0.2.2.2.2 (btC0.2.2.2.2 != tBR) a0_0 a0_1 a0_2 l0_3 tBL tBM tBN tBO btBT.1 btBT.2.1 btBT.2.2.1 btBT.2.2.2 btC0.1 btC0.2.1 btC0.2.2.1 btC0.2.2.2.1) else (laws_FnExactDropJump.j0 k a1 tBR btC0.2.2.2.2 true a0_0 a0_1 a0_2 l0_3 tBL tBM tBN tBO btBT.1 btBT.2.1 btBT.2.2.1 btBT.2.2.2 btC0.1 btC0.2.1 btC0.2.2.1 btC0.2.2.2.1))))) = some r := H
  have A9 := Aside0.mk A90
  clear A90
  replace H := Option.bind_eq_some_iff.mp H
  obtain ⟨⟨tBT, tBU, tBV, tBW⟩, A100, H⟩ := H
  replace H : ((impl_DropJump.f k tBT tBU tBV tBW a1).bind fun btC0 => ((laws_eqBoard.f k btC0.1 btC0.2.1 btC0.2.2.1 btC0.2.2.2.1 tBL tBM tBN tBO).bind fun tC8 => (if tC8 = true then (laws_FnExactDropJump.j0 k a1 tBR btC0.2.2.2.2 (btC0.2.2.2.2 != tBR) a0_0 a0_1 a0_2 l0_3 tBL tBM tBN tBO tBT tBU tBV tBW btC0.1 btC0.2.1 btC0.2.2.1 btC0.2.2.2.1) else (laws_FnExactDropJump.j0 k a1 tBR btC0.2.2.2.2 true a0_0 a0_1 a0_2 l0_3 tBL tBM tBN tBO tBT tBU tBV tBW btC0.1 btC0.2.1 btC0.2.2.1 btC0.2.2.2.1)))) = some r := H
  have A10 := Aside0.mk A100
  clear A100
  replace H := Option.bind_eq_some_iff.mp H
  obtain ⟨⟨tC0, tC1, tC2, tC3, tC6⟩, A110, H⟩ := H
  replace H : ((laws_eqBoard.f k tC0 tC1 tC2 tC3 tBL tBM tBN tBO).bind fun tC8 => (if tC8 = true then (laws_FnExactDropJump.j0 k a1 tBR tC6 (tC6 != tBR) a0_0 a0_1 a0_2 l0_3 tBL tBM tBN tBO tBT tBU tBV tBW tC0 tC1 tC2 tC3) else (laws_FnExactDropJump.j0 k a1 tBR tC6 true a0_0 a0_1 a0_2 l0_3 tBL tBM tBN tBO tBT tBU tBV tBW tC0 tC1 tC2 tC3))) = some r := H
  have A11 := Aside0.mk A110
  clear A110
  have HC12 := Aside0.mk H
  clear H
  go_enter Try.func31, Try.ntmps31
  go_upto_region 8 with (first | ((with_reducible refine gate_dst (N := 2) rfl ?_); refine box_event ?hg (N := 2) ?hd (cs := #[.int .i64 a0_0, .int .i64 a0_1, .int .i64 a0_2, .slice A0_3 l0_3.length c0_3]) (t := 24) ?hr ?_; (case hd => rfl); (case hg => rfl); (case hr => first | (go_simp; done) | (go_simp; rfl)); intro gbBD hg w13 hbox hb; have n0_ := Aside0.mk (below_step belS hb); have n1_ := Aside0.mk (hbox); have n2_ := Aside0.mk ((by rw [hg]; exact (below_size belS) : w.heap.size ≤ gbBD)); have n3_ := n2_; clear HB; have HB := n0_; have BKBD := n1_; have GWBD := n2_; have GEBD := n3_; clear n0_ n1_ n2_ n3_; clear hb hbox hg; obtain ⟨hcz14_0, hcz14_1, hcz14_2, hcz14_3, hfz14_0, hfz14_1, hfz14_2, hfz14_3⟩ := blk4 BKBD.out) | ((with_reducible refine gate_callee (f := 37) rfl ?_); refine goesL_ (some 18) rfl rfl Try.func37 (by kernel_rfl) rfl #[.agg #[.int .i64 a0_0, .int .i64 a0_1, .int .i64 a0_2, .slice A0_3 l0_3.length c0_3], .int .i64 1048576] rfl argS ?_; (with_reducible refine (laws_szBoard.calls a0_0 a0_1 a0_2 _ _ l0_3 1048576 tBE _ ?side1 ?side2 A3.out).mono ?_); (case side1 => exact Kd.C_up (Kd.C_below HR0_3.out HB.out)); (case side2 => exact HC0_3.out); rintro e w15 ⟨rfl, hb⟩; refine ⟨_, rfl, ?_⟩; have n0_ := Aside0.mk (blk_below (blk_up BKBD.out) hb); have n1_ := Aside0.mk (below_step belS hb); clear BKBD; clear HB; have BKBD := n0_; have HB := n1_; clear n0_ n1_; (try clear hb); (try clear hb2); (try clear hk); (try clear hi); obtain ⟨hcz16_0, hcz16_1, hcz16_2, hcz16_3, hfz16_0, hfz16_1, hfz16_2, hfz16_3⟩ := blk4 BKBD.out) | ((with_reducible refine gate_callee (f := 39) rfl ?_); refine goesL_ (some 23) rfl rfl Try.func39 (by kernel_rfl) rfl #[.agg #[.int .i64 a0_0, .int .i64 a0_1, .int .i64 a0_2, .slice A0_3 l0_3.length c0_3]] rfl argS ?_; (with_reducible refine (laws_toBoard.calls k a0_0 a0_1 a0_2 _ _ l0_3 tBF tBG tBH tBI _ ?side1 ?side2 A8.out).mono ?_); (case side1 => exact Kd.C_up (Kd.C_below HR0_3.out HB.out)); (case side2 => exact HC0_3.out); rintro e w17 ⟨vBJ, rfl, ho0, hb⟩; refine ⟨_, rfl, ?_⟩; have n0_ := Aside0.mk (Kd.R_lower ho0 (below_size belS)); have n1_ := Aside0.mk (blk_below (blk_up BKBD.out) hb); have n2_ := Aside0.mk (below_step belS hb); clear BKBD; clear HB; have HOBK := n0_; have BKBD := n1_; have HB := n2_; clear n0_ n1_ n2_; (try clear hb); (try clear hb2); (try clear hk); (try clear hi); (try clear ho0); obtain ⟨Ao18, co18, eo18⟩ := Kd.R_slice HOBK.out; subst eo18) | ((with_reducible refine gate_callee (f := 112) rfl ?_); refine goesL_ (some 25) rfl rfl Try.func112 (by kernel_rfl) rfl #[.agg #[.int .i64 tBF, .int .i64 tBG, .int .i64 tBH, .slice Ao18 tBI.length co18], .int .i64 a1] rfl argS ?_; (with_reducible refine (spec_DropJump.calls k tBF tBG tBH _ _ tBI a1 tBL tBM tBN tBO tBR _ ?side1 ?side2 A9.out).mono ?_); (case side1 => exact Kd.C_up (Kd.R_reads' HOBK.out).2.2); (case side2 => exact (Kd.R_reads' HOBK.out).2.1); rintro e w19 ⟨vBP, rfl, ho0, hb⟩; refine ⟨_, rfl, ?_⟩; have n0_ := Aside0.mk (Kd.R_elder' (Kd.R_up HOBK.out) (Kd.R_base ho0) hb); have n1_ := Aside0.mk (Kd.R_lower (Kd.R_new' ho0 (Kd.R_lt (Kd.R_up HOBK.out))) (below_size belS)); have n2_ := Aside0.mk (blk_below (blk_up BKBD.out) hb); have n3_ := Aside0.mk (below_step belS hb); clear HOBK; clear BKBD; clear HB; have HOBK := n0_; have HOBQ := n1_; have BKBD := n2_; have HB := n3_; clear n0_ n1_ n2_ n3_; (try clear hb); (try clear hb2); (try clear hk); (try clear hi); (try clear ho0)) | ((with_reducible refine gate_dst (N := 6) rfl ?_); refine box_event ?hg (N := 6) ?hd (cs := #[.int .i64 0, .int .i64 0, .int .i64 0, .slice none 0 0]) (t := 32) ?hr ?_; (case hd => rfl); (case hg => rfl); (case hr => first | (go_simp; done) | (go_simp; rfl)); intro gbBS hg w20 hbox hb; have n0_ := Aside0.mk (Kd.R_below (Kd.R_up HOBK.out) hb); have n1_ := Aside0.mk (Kd.R_below (Kd.R_up HOBQ.out) hb); have n2_ := Aside0.mk (blk_below (blk_up BKBD.out) hb); have n3_ := Aside0.mk (below_step belS hb); have n4_ := Aside0.mk (hbox); have n5_ := Aside0.mk ((by rw [hg]; exact (below_size belS) : w.heap.size ≤ gbBS)); have n6_ := n5_; have n7_ := Aside0.mk ((by rw [hg]; exact Nat.ne_of_lt (blk_lt (blk_up BKBD.out)) : gbBD ≠ gbBS)); have n8_ := Aside0.mk ((by rw [hg]; exact Nat.ne_of_gt (blk_lt (blk_up BKBD.out)) : gbBS ≠ gbBD)); clear HOBK; clear HOBQ; clear BKBD; clear HB; have HOBK := n0_; have HOBQ := n1_; have BKBD := n2_; have HB := n3_; have BKBS := n4_; have GWBS := n5_; have GEBS := n6_; have NBBD_BS := n7_; have NBBS_BD := n8_; clear n0_ n1_ n2_ n3_ n4_ n5_ n6_ n7_ n8_; clear hb hbox hg; have hnb21 := NBBS_BD.out; have hnc21 := NBBD_BS.out; obtain ⟨hcz22_0, hcz22_1, hcz22_2, hcz22_3, hfz22_0, hfz22_1, hfz22_2, hfz22_3⟩ := blk4 BKBS.out; obtain ⟨Ao23, co23, eo23⟩ := Kd.R_slice HOBQ.out; subst eo23; obtain ⟨hcz24_0, hcz24_1, hcz24_2, hcz24_3, hfz24_0, hfz24_1, hfz24_2, hfz24_3⟩ := blk4 BKBD.out) | ((with_reducible refine gate_callee (f := 39) rfl ?_); refine goesL_ (some 29) rfl rfl Try.func39 (by kernel_rfl) rfl #[.agg #[.int .i64 a0_0, .int .i64 a0_1, .int .i64 a0_2, .slice A0_3 l0_3.length c0_3]] rfl argS ?_; (with_reducible refine (laws_toBoard.calls k a0_0 a0_1 a0_2 _ _ l0_3 tBT tBU tBV tBW _ ?side1 ?side2 A10.out).mono ?_); (case side1 => exact Kd.C_below HR0_3.out belS); (case side2 => exact HC0_3.out); rintro e w25 ⟨vBX, rfl, ho0, hb⟩; refine ⟨_, rfl, ?_⟩; have n0_ := Aside0.mk (Kd.R_elder' (by (with_reducible repeat (first | apply Kd.R_alloc | apply Kd.R_drewN | apply Kd.R_drew)); exact (Kd.R_mono (Kd.R_far (p := ⟨gbBS, 3, none⟩) (Kd.R_far (p := ⟨gbBS, 2, none⟩) (Kd.R_far (p := ⟨gbBS, 1, none⟩) (Kd.R_far (p := ⟨gbBS, 0, none⟩) (Kd.R_types HOBK.out BKBS.out (by decide)) (fun _ hk => hk.2) (.int .i64 tBL)) (fun _ hk => hk.2) (.int .i64 tBM)) (fun _ hk => hk.2) (.int .i64 tBN)) (fun _ hk => hk.2) (.slice Ao23 tBO.length co23)) (fun _ h_ => h_.1))) (Kd.R_base ho0) hb); have n1_ := Aside0.mk (Kd.R_elder' (by (with_reducible repeat (first | apply Kd.R_alloc | apply Kd.R_drewN | apply Kd.R_drew)); exact (Kd.R_mono (Kd.R_far (p := ⟨gbBS, 3, none⟩) (Kd.R_far (p := ⟨gbBS, 2, none⟩) (Kd.R_far (p := ⟨gbBS, 1, none⟩) (Kd.R_far (p := ⟨gbBS, 0, none⟩) (Kd.R_types HOBQ.out BKBS.out (by decide)) (fun _ hk => hk.2) (.int .i64 tBL)) (fun _ hk => hk.2) (.int .i64 tBM)) (fun _ hk => hk.2) (.int .i64 tBN)) (fun _ hk => hk.2) (.slice Ao23 tBO.length co23)) (fun _ h_ => h_.1))) (Kd.R_base ho0) hb); have n2_ := Aside0.mk (Kd.R_lower (Kd.R_new' (Kd.R_new' ho0 (Kd.R_lt (by (with_reducible repeat (first | apply Kd.R_alloc | apply Kd.R_drewN | apply Kd.R_drew)); exact (Kd.R_mono (Kd.R_far (p := ⟨gbBS, 3, none⟩) (Kd.R_far (p := ⟨gbBS, 2, none⟩) (Kd.R_far (p := ⟨gbBS, 1, none⟩) (Kd.R_far (p := ⟨gbBS, 0, none⟩) (Kd.R_types HOBK.out BKBS.out (by decide)) (fun _ hk => hk.2) (.int .i64 tBL)) (fun _ hk => hk.2) (.int .i64 tBM)) (fun _ hk => hk.2) (.int .i64 tBN)) (fun _ hk => hk.2) (.slice Ao23 tBO.length co23)) (fun _ h_ => h_.1))))) (Kd.R_lt (by (with_reducible repeat (first | apply Kd.R_alloc | apply Kd.R_drewN | apply Kd.R_drew)); exact (Kd.R_mono (Kd.R_far (p := ⟨gbBS, 3, none⟩) (Kd.R_far (p := ⟨gbBS, 2, none⟩) (Kd.R_far (p := ⟨gbBS, 1, none⟩) (Kd.R_far (p := ⟨gbBS, 0, none⟩) (Kd.R_types HOBQ.out BKBS.out (by decide)) (fun _ hk => hk.2) (.int .i64 tBL)) (fun _ hk => hk.2) (.int .i64 tBM)) (fun _ hk => hk.2) (.int .i64 tBN)) (fun _ hk => hk.2) (.slice Ao23 tBO.length co23)) (fun _ h_ => h_.1))))) (below_size belS)); have n3_ := Aside0.mk (blk_below (g := gbBD) (o := .cells #[.int .i64 a0_0, .int .i64 a0_1, .int .i64 a0_2, .slice A0_3 l0_3.length c0_3] 24 (0, 0)) (by (with_reducible repeat (first | refine blk_drewN ?_ _ | refine blk_drew ?_ | refine blk_alloc ?_ _)); refine blk_far ?_ NBBD_BS.out _; (with_reducible repeat (first | refine blk_drewN ?_ _ | refine blk_drew ?_ | refine blk_alloc ?_ _)); refine blk_far ?_ NBBD_BS.out _; (with_reducible repeat (first | refine blk_drewN ?_ _ | refine blk_drew ?_ | refine blk_alloc ?_ _)); refine blk_far ?_ NBBD_BS.out _; (with_reducible repeat (first | refine blk_drewN ?_ _ | refine blk_drew ?_ | refine blk_alloc ?_ _)); refine blk_far ?_ NBBD_BS.out _; (with_reducible repeat (first | refine blk_drewN ?_ _ | refine blk_drew ?_ | refine blk_alloc ?_ _)); exact BKBD.out) hb); have n4_ := Aside0.mk (blk_below (g := gbBS) (o := .cells #[.int .i64 tBL, .int .i64 tBM, .int .i64 tBN, .slice Ao23 tBO.length co23] 32 (0, 0)) (by (with_reducible repeat (first | refine blk_drewN ?_ _ | refine blk_drew ?_ | refine blk_alloc ?_ _)); refine blk_put (cs := #[.int .i64 tBL, .int .i64 tBM, .int .i64 tBN, .slice none 0 0]) ?_ 3 _ rfl; (with_reducible repeat (first | refine blk_drewN ?_ _ | refine blk_drew ?_ | refine blk_alloc ?_ _)); refine blk_put (cs := #[.int .i64 tBL, .int .i64 tBM, .int .i64 0, .slice none 0 0]) ?_ 2 _ rfl; (with_reducible repeat (first | refine blk_drewN ?_ _ | refine blk_drew ?_ | refine blk_alloc ?_ _)); refine blk_put (cs := #[.int .i64 tBL, .int .i64 0, .int .i64 0, .slice none 0 0]) ?_ 1 _ rfl; (with_reducible repeat (first | refine blk_drewN ?_ _ | refine blk_drew ?_ | refine blk_alloc ?_ _)); refine blk_put (cs := #[.int .i64 0, .int .i64 0, .int .i64 0, .slice none 0 0]) ?_ 0 _ rfl; (with_reducible repeat (first | refine blk_drewN ?_ _ | refine blk_drew ?_ | refine blk_alloc ?_ _)); exact BKBS.out) hb); have n5_ := Aside0.mk (below_step belS hb); clear HOBK; clear HOBQ; clear BKBD; clear BKBS; clear HB; have HOBK := n0_; have HOBQ := n1_; have HOBY := n2_; have BKBD := n3_; have BKBS := n4_; have HB := n5_; clear n0_ n1_ n2_ n3_ n4_ n5_; (try clear hb); (try clear hb2); (try clear hk); (try clear hi); (try clear ho0)) | ((with_reducible refine gate_dst (N := 8) rfl ?_); refine box_event ?hg (N := 8) ?hd (cs := #[.int .i64 0, .int .i64 0, .int .i64 0, .slice none 0 0]) (t := 32) ?hr ?_; (case hd => rfl); (case hg => rfl); (case hr => first | (go_simp; done) | (go_simp; rfl)); intro gbBZ hg w26 hbox hb; have n0_ := Aside0.mk (Kd.R_below (Kd.R_up HOBK.out) hb); have n1_ := Aside0.mk (Kd.R_below (Kd.R_up HOBQ.out) hb); have n2_ := Aside0.mk (Kd.R_below (Kd.R_up HOBY.out) hb); have n3_ := Aside0.mk (blk_below (blk_up BKBD.out) hb); have n4_ := Aside0.mk (blk_below (blk_up BKBS.out) hb); have n5_ := Aside0.mk (below_step belS hb); have n6_ := Aside0.mk (hbox); have n7_ := Aside0.mk ((by rw [hg]; exact (below_size belS) : w.heap.size ≤ gbBZ)); have n8_ := n7_; have n9_ := Aside0.mk ((by rw [hg]; exact Nat.ne_of_lt (blk_lt (blk_up BKBD.out)) : gbBD ≠ gbBZ)); have n10_ := Aside0.mk ((by rw [hg]; exact Nat.ne_of_gt (blk_lt (blk_up BKBD.out)) : gbBZ ≠ gbBD)); have n11_ := Aside0.mk ((by rw [hg]; exact Nat.ne_of_lt (blk_lt (blk_up BKBS.out)) : gbBS ≠ gbBZ)); have n12_ := Aside0.mk ((by rw [hg]; exact Nat.ne_of_gt (blk_lt (blk_up BKBS.out)) : gbBZ ≠ gbBS)); clear HOBK; clear HOBQ; clear HOBY; clear BKBD; clear BKBS; clear HB; have HOBK := n0_; have HOBQ := n1_; have HOBY := n2_; have BKBD := n3_; have BKBS := n4_; have HB := n5_; have BKBZ := n6_; have GWBZ := n7_; have GEBZ := n8_; have NBBD_BZ := n9_; have NBBZ_BD := n10_; have NBBS_BZ := n11_; have NBBZ_BS := n12_; clear n0_ n1_ n2_ n3_ n4_ n5_ n6_ n7_ n8_ n9_ n10_ n11_ n12_; clear hb hbox hg; have hnb27 := NBBZ_BD.out; have hnc27 := NBBD_BZ.out; have hnb28 := NBBZ_BS.out; have hnc28 := NBBS_BZ.out; obtain ⟨hcz29_0, hcz29_1, hcz29_2, hcz29_3, hfz29_0, hfz29_1, hfz29_2, hfz29_3⟩ := blk4 BKBZ.out; obtain ⟨Ao30, co30, eo30⟩ := Kd.R_slice HOBY.out; subst eo30) | ((with_reducible refine gate_callee (f := 113) rfl ?_); refine goesL_ (some 33) rfl rfl Try.func113 (by kernel_rfl) rfl #[.agg #[.int .i64 tBT, .int .i64 tBU, .int .i64 tBV, .slice Ao30 tBW.length co30], .int .i64 a1] rfl argS ?_; (with_reducible refine (impl_DropJump.calls k tBT tBU tBV _ _ tBW a1 tC0 tC1 tC2 tC3 tC6 _ ?side1 ?side2 A11.out).mono ?_); (case side1 => refine (Kd.R_reads' (e := 27) (base := w.heap.size) (ok := fun k_ => ((True ∧ some k_ ≠ (.slice Ao18 tBI.length co18 : Value).ownBlock) ∧ some k_ ≠ (.slice Ao23 tBO.length co23 : Value).ownBlock)) (n := tBW.length) (c := co30) ?_).2.2; exact (by (with_reducible repeat (first | apply Kd.R_alloc | apply Kd.R_drewN | apply Kd.R_drew)); exact (Kd.R_mono (Kd.R_far (p := ⟨gbBZ, 3, none⟩) (Kd.R_far (p := ⟨gbBZ, 2, none⟩) (Kd.R_far (p := ⟨gbBZ, 1, none⟩) (Kd.R_far (p := ⟨gbBZ, 0, none⟩) (Kd.R_types HOBY.out BKBZ.out (by decide)) (fun _ hk => hk.2) (.int .i64 tBT)) (fun _ hk => hk.2) (.int .i64 tBU)) (fun _ hk => hk.2) (.int .i64 tBV)) (fun _ hk => hk.2) (.slice Ao30 tBW.length co30)) (fun _ h_ => h_.1)))); (case side2 => exact (Kd.R_reads' HOBY.out).2.1); rintro e w31 ⟨vC4, rfl, ho0, hb⟩; refine ⟨_, rfl, ?_⟩; have n0_ := Aside0.mk (Kd.R_elder' (by (with_reducible repeat (first | apply Kd.R_alloc | apply Kd.R_drewN | apply Kd.R_drew)); exact (Kd.R_mono (Kd.R_far (p := ⟨gbBZ, 3, none⟩) (Kd.R_far (p := ⟨gbBZ, 2, none⟩) (Kd.R_far (p := ⟨gbBZ, 1, none⟩) (Kd.R_far (p := ⟨gbBZ, 0, none⟩) (Kd.R_types HOBK.out BKBZ.out (by decide)) (fun _ hk => hk.2) (.int .i64 tBT)) (fun _ hk => hk.2) (.int .i64 tBU)) (fun _ hk => hk.2) (.int .i64 tBV)) (fun _ hk => hk.2) (.slice Ao30 tBW.length co30)) (fun _ h_ => h_.1))) (Kd.R_base ho0) hb); have n1_ := Aside0.mk (Kd.R_elder' (by (with_reducible repeat (first | apply Kd.R_alloc | apply Kd.R_drewN | apply Kd.R_drew)); exact (Kd.R_mono (Kd.R_far (p := ⟨gbBZ, 3, none⟩) (Kd.R_far (p := ⟨gbBZ, 2, none⟩) (Kd.R_far (p := ⟨gbBZ, 1, none⟩) (Kd.R_far (p := ⟨gbBZ, 0, none⟩) (Kd.R_types HOBQ.out BKBZ.out (by decide)) (fun _ hk => hk.2) (.int .i64 tBT)) (fun _ hk => hk.2) (.int .i64 tBU)) (fun _ hk => hk.2) (.int .i64 tBV)) (fun _ hk => hk.2) (.slice Ao30 tBW.length co30)) (fun _ h_ => h_.1))) (Kd.R_base ho0) hb); have n2_ := Aside0.mk (Kd.R_elder' (by (with_reducible repeat (first | apply Kd.R_alloc | apply Kd.R_drewN | apply Kd.R_drew)); exact (Kd.R_mono (Kd.R_far (p := ⟨gbBZ, 3, none⟩) (Kd.R_far (p := ⟨gbBZ, 2, none⟩) (Kd.R_far (p := ⟨gbBZ, 1, none⟩) (Kd.R_far (p := ⟨gbBZ, 0, none⟩) (Kd.R_types HOBY.out BKBZ.out (by decide)) (fun _ hk => hk.2) (.int .i64 tBT)) (fun _ hk => hk.2) (.int .i64 tBU)) (fun _ hk => hk.2) (.int .i64 tBV)) (fun _ hk => hk.2) (.slice Ao30 tBW.length co30)) (fun _ h_ => h_.1))) (Kd.R_base ho0) hb); have n3_ := Aside0.mk (Kd.R_lower (Kd.R_new' (Kd.R_new' (Kd.R_new' ho0 (Kd.R_lt (by (with_reducible repeat (first | apply Kd.R_alloc | apply Kd.R_drewN | apply Kd.R_drew)); exact (Kd.R_mono (Kd.R_far (p := ⟨gbBZ, 3, none⟩) (Kd.R_far (p := ⟨gbBZ, 2, none⟩) (Kd.R_far (p := ⟨gbBZ, 1, none⟩) (Kd.R_far (p := ⟨gbBZ, 0, none⟩) (Kd.R_types HOBK.out BKBZ.out (by decide)) (fun _ hk => hk.2) (.int .i64 tBT)) (fun _ hk => hk.2) (.int .i64 tBU)) (fun _ hk => hk.2) (.int .i64 tBV)) (fun _ hk => hk.2) (.slice Ao30 tBW.length co30)) (fun _ h_ => h_.1))))) (Kd.R_lt (by (with_reducible repeat (first | apply Kd.R_alloc | apply Kd.R_drewN | apply Kd.R_drew)); exact (Kd.R_mono (Kd.R_far (p := ⟨gbBZ, 3, none⟩) (Kd.R_far (p := ⟨gbBZ, 2, none⟩) (Kd.R_far (p := ⟨gbBZ, 1, none⟩) (Kd.R_far (p := ⟨gbBZ, 0, none⟩) (Kd.R_types HOBQ.out BKBZ.out (by decide)) (fun _ hk => hk.2) (.int .i64 tBT)) (fun _ hk => hk.2) (.int .i64 tBU)) (fun _ hk => hk.2) (.int .i64 tBV)) (fun _ hk => hk.2) (.slice Ao30 tBW.length co30)) (fun _ h_ => h_.1))))) (Kd.R_lt (by (with_reducible repeat (first | apply Kd.R_alloc | apply Kd.R_drewN | apply Kd.R_drew)); exact (Kd.R_mono (Kd.R_far (p := ⟨gbBZ, 3, none⟩) (Kd.R_far (p := ⟨gbBZ, 2, none⟩) (Kd.R_far (p := ⟨gbBZ, 1, none⟩) (Kd.R_far (p := ⟨gbBZ, 0, none⟩) (Kd.R_types HOBY.out BKBZ.out (by decide)) (fun _ hk => hk.2) (.int .i64 tBT)) (fun _ hk => hk.2) (.int .i64 tBU)) (fun _ hk => hk.2) (.int .i64 tBV)) (fun _ hk => hk.2) (.slice Ao30 tBW.length co30)) (fun _ h_ => h_.1))))) (below_size belS)); have n4_ := Aside0.mk (blk_below (g := gbBD) (o := .cells #[.int .i64 a0_0, .int .i64 a0_1, .int .i64 a0_2, .slice A0_3 l0_3.length c0_3] 24 (0, 0)) (by (with_reducible repeat (first | refine blk_drewN ?_ _ | refine blk_drew ?_ | refine blk_alloc ?_ _)); refine blk_far ?_ NBBD_BZ.out _; (with_reducible repeat (first | refine blk_drewN ?_ _ | refine blk_drew ?_ | refine blk_alloc ?_ _)); refine blk_far ?_ NBBD_BZ.out _; (with_reducible repeat (first | refine blk_drewN ?_ _ | refine blk_drew ?_ | refine blk_alloc ?_ _)); refine blk_far ?_ NBBD_BZ.out _; (with_reducible repeat (first | refine blk_drewN ?_ _ | refine blk_drew ?_ | refine blk_alloc ?_ _)); refine blk_far ?_ NBBD_BZ.out _; (with_reducible repeat (first | refine blk_drewN ?_ _ | refine blk_drew ?_ | refine blk_alloc ?_ _)); exact BKBD.out) hb); have n5_ := Aside0.mk (blk_below (g := gbBS) (o := .cells #[.int .i64 tBL, .int .i64 tBM, .int .i64 tBN, .slice Ao23 tBO.length co23] 32 (0, 0)) (by (with_reducible repeat (first | refine blk_drewN ?_ _ | refine blk_drew ?_ | refine blk_alloc ?_ _)); refine blk_far ?_ NBBS_BZ.out _; (with_reducible repeat (first | refine blk_drewN ?_ _ | refine blk_drew ?_ | refine blk_alloc ?_ _)); refine blk_far ?_ NBBS_BZ.out _; (with_reducible repeat (first | refine blk_drewN ?_ _ | refine blk_drew ?_ | refine blk_alloc ?_ _)); refine blk_far ?_ NBBS_BZ.out _; (with_reducible repeat (first | refine blk_drewN ?_ _ | refine blk_drew ?_ | refine blk_alloc ?_ _)); refine blk_far ?_ NBBS_BZ.out _; (with_reducible repeat (first | refine blk_drewN ?_ _ | refine blk_drew ?_ | refine blk_alloc ?_ _)); exact BKBS.out) hb); have n6_ := Aside0.mk (blk_below (g := gbBZ) (o := .cells #[.int .i64 tBT, .int .i64 tBU, .int .i64 tBV, .slice Ao30 tBW.length co30] 32 (0, 0)) (by (with_reducible repeat (first | refine blk_drewN ?_ _ | refine blk_drew ?_ | refine blk_alloc ?_ _)); refine blk_put (cs := #[.int .i64 tBT, .int .i64 tBU, .int .i64 tBV, .slice none 0 0]) ?_ 3 _ rfl; (with_reducible repeat (first | refine blk_drewN ?_ _ | refine blk_drew ?_ | refine blk_alloc ?_ _)); refine blk_put (cs := #[.int .i64 tBT, .int .i64 tBU, .int .i64 0, .slice none 0 0]) ?_ 2 _ rfl; (with_reducible repeat (first | refine blk_drewN ?_ _ | refine blk_drew ?_ | refine blk_alloc ?_ _)); refine blk_put (cs := #[.int .i64 tBT, .int .i64 0, .int .i64 0, .slice none 0 0]) ?_ 1 _ rfl; (with_reducible repeat (first | refine blk_drewN ?_ _ | refine blk_drew ?_ | refine blk_alloc ?_ _)); refine blk_put (cs := #[.int .i64 0, .int .i64 0, .int .i64 0, .slice none 0 0]) ?_ 0 _ rfl; (with_reducible repeat (first | refine blk_drewN ?_ _ | refine blk_drew ?_ | refine blk_alloc ?_ _)); exact BKBZ.out) hb); have n7_ := Aside0.mk (below_step belS hb); clear HOBK; clear HOBQ; clear HOBY; clear BKBD; clear BKBS; clear BKBZ; clear HB; have HOBK := n0_; have HOBQ := n1_; have HOBY := n2_; have HOC5 := n3_; have BKBD := n4_; have BKBS := n5_; have BKBZ := n6_; have HB := n7_; clear n0_ n1_ n2_ n3_ n4_ n5_ n6_ n7_; (try clear hb); (try clear hb2); (try clear hk); (try clear hi); (try clear ho0)) | ((with_reducible refine gate_dst (N := 9) rfl ?_); refine box_event ?hg (N := 9) ?hd (cs := #[.int .i64 0, .int .i64 0, .int .i64 0, .slice none 0 0]) (t := 32) ?hr ?_; (case hd => rfl); (case hg => rfl); (case hr => first | (go_simp; done) | (go_simp; rfl)); intro gbC7 hg w32 hbox hb; have n0_ := Aside0.mk (Kd.R_below (Kd.R_up HOBK.out) hb); have n1_ := Aside0.mk (Kd.R_below (Kd.R_up HOBQ.out) hb); have n2_ := Aside0.mk (Kd.R_below (Kd.R_up HOBY.out) hb); have n3_ := Aside0.mk (Kd.R_below (Kd.R_up HOC5.out) hb); have n4_ := Aside0.mk (blk_below (blk_up BKBD.out) hb); have n5_ := Aside0.mk (blk_below (blk_up BKBS.out) hb); have n6_ := Aside0.mk (blk_below (blk_up BKBZ.out) hb); have n7_ := Aside0.mk (below_step belS hb); have n8_ := Aside0.mk (hbox); have n9_ := Aside0.mk ((by rw [hg]; exact (below_size belS) : w.heap.size ≤ gbC7)); have n10_ := n9_; have n11_ := Aside0.mk ((by rw [hg]; exact Nat.ne_of_lt (blk_lt (blk_up BKBD.out)) : gbBD ≠ gbC7)); have n12_ := Aside0.mk ((by rw [hg]; exact Nat.ne_of_gt (blk_lt (blk_up BKBD.out)) : gbC7 ≠ gbBD)); have n13_ := Aside0.mk ((by rw [hg]; exact Nat.ne_of_lt (blk_lt (blk_up BKBS.out)) : gbBS ≠ gbC7)); have n14_ := Aside0.mk ((by rw [hg]; exact Nat.ne_of_gt (blk_lt (blk_up BKBS.out)) : gbC7 ≠ gbBS)); have n15_ := Aside0.mk ((by rw [hg]; exact Nat.ne_of_lt (blk_lt (blk_up BKBZ.out)) : gbBZ ≠ gbC7)); have n16_ := Aside0.mk ((by rw [hg]; exact Nat.ne_of_gt (blk_lt (blk_up BKBZ.out)) : gbC7 ≠ gbBZ)); clear HOBK; clear HOBQ; clear HOBY; clear HOC5; clear BKBD; clear BKBS; clear BKBZ; clear HB; have HOBK := n0_; have HOBQ := n1_; have HOBY := n2_; have HOC5 := n3_; have BKBD := n4_; have BKBS := n5_; have BKBZ := n6_; have HB := n7_; have BKC7 := n8_; have GWC7 := n9_; have GEC7 := n10_; have NBBD_C7 := n11_; have NBC7_BD := n12_; have NBBS_C7 := n13_; have NBC7_BS := n14_; have NBBZ_C7 := n15_; have NBC7_BZ := n16_; clear n0_ n1_ n2_ n3_ n4_ n5_ n6_ n7_ n8_ n9_ n10_ n11_ n12_ n13_ n14_ n15_ n16_; clear hb hbox hg; have hnb33 := NBC7_BD.out; have hnc33 := NBBD_C7.out; have hnb34 := NBC7_BS.out; have hnc34 := NBBS_C7.out; have hnb35 := NBC7_BZ.out; have hnc35 := NBBZ_C7.out; obtain ⟨hcz36_0, hcz36_1, hcz36_2, hcz36_3, hfz36_0, hfz36_1, hfz36_2, hfz36_3⟩ := blk4 BKC7.out; obtain ⟨Ao37, co37, eo37⟩ := Kd.R_slice HOC5.out; subst eo37))
  (try simp only [Act.put, List.setIfInBounds_toArray, List.set_cons_zero, List.set_cons_succ])
  go_cut [44] (fun v44 wc => ∃ (kq : Nat) (x44_11 : Bool), v44 = .bool x44_11 ∧ Aside0 (laws_FnExactDropJump.j0 kq a1 tBR tC6 x44_11 a0_0 a0_1 a0_2 l0_3 tBL tBM tBN tBO tBT tBU tBV tBW tC0 tC1 tC2 tC3 = some r) ∧ Aside0 (kq ≤ k) ∧ Aside0 (Kd.R k27 27 wc w.heap.size (fun k_ => some k_ ≠ ((.slice Ao30 tBW.length co30) : Value).ownBlock ∧ some k_ ≠ ((.slice Ao37 tC3.length co37) : Value).ownBlock) (.slice Ao23 tBO.length co23) tBO) ∧ Aside0 (Kd.R k27 27 wc w.heap.size (fun k_ => some k_ ≠ ((.slice Ao23 tBO.length co23) : Value).ownBlock ∧ some k_ ≠ ((.slice Ao37 tC3.length co37) : Value).ownBlock) (.slice Ao30 tBW.length co30) tBW) ∧ Aside0 (Kd.R k27 27 wc w.heap.size (fun k_ => some k_ ≠ ((.slice Ao23 tBO.length co23) : Value).ownBlock ∧ some k_ ≠ ((.slice Ao30 tBW.length co30) : Value).ownBlock) (.slice Ao37 tC3.length co37) tC3) ∧ Aside0 (wc.heap[gbBD]? = some (.cells #[.int .i64 a0_0, .int .i64 a0_1, .int .i64 a0_2, (.slice A0_3 l0_3.length c0_3)] 24 (0, 0))) ∧ Aside0 (wc.heap[gbBS]? = some (.cells #[.int .i64 tBL, .int .i64 tBM, .int .i64 tBN, (.slice Ao23 tBO.length co23)] 32 (0, 0))) ∧ Aside0 (wc.heap[gbBZ]? = some (.cells #[.int .i64 tBT, .int .i64 tBU, .int .i64 tBV, (.slice Ao30 tBW.length co30)] 32 (0, 0))) ∧ Aside0 (wc.heap[gbC7]? = some (.cells #[.int .i64 tC0, .int .i64 tC1, .int .i64 tC2, (.slice Ao37 tC3.length co37)] 32 (0, 0))) ∧ Aside0 (Below w.heap.size w wc))
  case first =>
   have H := HC12.out
   clear HC12
   replace H := Option.bind_eq_some_iff.mp H
   obtain ⟨tC8, A380, H⟩ := H
   replace H : (if tC8 = true then (laws_FnExactDropJump.j0 k a1 tBR tC6 (tC6 != tBR) a0_0 a0_1 a0_2 l0_3 tBL tBM tBN tBO tBT tBU tBV tBW tC0 tC1 tC2 tC3) else (laws_FnExactDropJump.j0 k a1 tBR tC6 true a0_0 a0_1 a0_2 l0_3 tBL tBM tBN tBO tBT tBU tBV tBW tC0 tC1 tC2 tC3)) = some r := H
   have A38 := Aside0.mk A380
   clear A380
   by_cases c39 : tC8 = true
   ·subst c39
    have H1 : (laws_FnExactDropJump.j0 k a1 tBR tC6 (tC6 != tBR) a0_0 a0_1 a0_2 l0_3 tBL tBM tBN tBO tBT tBU tBV tBW tC0 tC1 tC2 tC3) = some r := by rw [if_pos rfl] at H; exact H
    clear H
    have H := H1
    clear H1
    have H' := Aside0.mk H
    clear H
    have hnb40 := NBC7_BD.out
    have hnc40 := NBBD_C7.out
    have hnb41 := NBC7_BS.out
    have hnc41 := NBBS_C7.out
    have hnb42 := NBC7_BZ.out
    have hnc42 := NBBZ_C7.out
    obtain ⟨hcz43_0, hcz43_1, hcz43_2, hcz43_3, hfz43_0, hfz43_1, hfz43_2, hfz43_3⟩ := blk4 BKC7.out
    have hnb44 := NBBS_BD.out
    have hnc44 := NBBD_BS.out
    have hnb45 := NBBS_BZ.out
    have hnc45 := NBBZ_BS.out
    obtain ⟨hcz46_0, hcz46_1, hcz46_2, hcz46_3, hfz46_0, hfz46_1, hfz46_2, hfz46_3⟩ := blk4 BKBS.out
    go_wp2_with (first | ((with_reducible refine gate_callee (f := 42) rfl ?_); refine goesL_ (some 38) rfl rfl Try.func42 (by kernel_rfl) rfl #[.agg #[.int .i64 tC0, .int .i64 tC1, .int .i64 tC2, .slice Ao37 tC3.length co37], .agg #[.int .i64 tBL, .int .i64 tBM, .int .i64 tBN, .slice Ao23 tBO.length co23]] rfl argS ?_; (with_reducible refine (laws_eqBoard.calls k tC0 tC1 tC2 _ _ tC3 tBL tBM tBN _ _ tBO true _ ?side1 ?side2 ?side3 ?side4 A38.out).mono ?_); (case side1 => refine (Kd.R_reads' (e := 27) (base := w.heap.size) (ok := fun k_ => (((True ∧ some k_ ≠ (.slice Ao18 tBI.length co18 : Value).ownBlock) ∧ some k_ ≠ (.slice Ao23 tBO.length co23 : Value).ownBlock) ∧ some k_ ≠ (.slice Ao30 tBW.length co30 : Value).ownBlock)) (n := tC3.length) (c := co37) ?_).2.2; exact (by (with_reducible repeat (first | apply Kd.R_alloc | apply Kd.R_drewN | apply Kd.R_drew)); exact (Kd.R_mono (Kd.R_far (p := ⟨gbC7, 3, none⟩) (Kd.R_far (p := ⟨gbC7, 2, none⟩) (Kd.R_far (p := ⟨gbC7, 1, none⟩) (Kd.R_far (p := ⟨gbC7, 0, none⟩) (Kd.R_types HOC5.out BKC7.out (by decide)) (fun _ hk => hk.2) (.int .i64 tC0)) (fun _ hk => hk.2) (.int .i64 tC1)) (fun _ hk => hk.2) (.int .i64 tC2)) (fun _ hk => hk.2) (.slice Ao37 tC3.length co37)) (fun _ h_ => h_.1)))); (case side2 => exact (Kd.R_reads' HOC5.out).2.1); (case side3 => refine (Kd.R_reads' (e := 27) (base := w.heap.size) (ok := fun k_ => (((True ∧ some k_ ≠ (.slice Ao18 tBI.length co18 : Value).ownBlock) ∧ some k_ ≠ (.slice Ao30 tBW.length co30 : Value).ownBlock) ∧ some k_ ≠ (.slice Ao37 tC3.length co37 : Value).ownBlock)) (n := tBO.length) (c := co23) ?_).2.2; exact (by (with_reducible repeat (first | apply Kd.R_alloc | apply Kd.R_drewN | apply Kd.R_drew)); exact (Kd.R_mono (Kd.R_far (p := ⟨gbC7, 3, none⟩) (Kd.R_far (p := ⟨gbC7, 2, none⟩) (Kd.R_far (p := ⟨gbC7, 1, none⟩) (Kd.R_far (p := ⟨gbC7, 0, none⟩) (Kd.R_types HOBQ.out BKC7.out (by decide)) (fun _ hk => hk.2) (.int .i64 tC0)) (fun _ hk => hk.2) (.int .i64 tC1)) (fun _ hk => hk.2) (.int .i64 tC2)) (fun _ hk => hk.2) (.slice Ao37 tC3.length co37)) (fun _ h_ => h_.1)))); (case side4 => exact (Kd.R_reads' HOBQ.out).2.1); rintro e w47 ⟨rfl, hb⟩; refine ⟨_, rfl, ?_⟩; have n0_ := Aside0.mk (Kd.R_below (by (with_reducible repeat (first | apply Kd.R_alloc | apply Kd.R_drewN | apply Kd.R_drew)); exact (Kd.R_mono (Kd.R_far (p := ⟨gbC7, 3, none⟩) (Kd.R_far (p := ⟨gbC7, 2, none⟩) (Kd.R_far (p := ⟨gbC7, 1, none⟩) (Kd.R_far (p := ⟨gbC7, 0, none⟩) (Kd.R_types HOBK.out BKC7.out (by decide)) (fun _ hk => hk.2) (.int .i64 tC0)) (fun _ hk => hk.2) (.int .i64 tC1)) (fun _ hk => hk.2) (.int .i64 tC2)) (fun _ hk => hk.2) (.slice Ao37 tC3.length co37)) (fun _ h_ => h_.1))) hb); have n1_ := Aside0.mk (Kd.R_below (by (with_reducible repeat (first | apply Kd.R_alloc | apply Kd.R_drewN | apply Kd.R_drew)); exact (Kd.R_mono (Kd.R_far (p := ⟨gbC7, 3, none⟩) (Kd.R_far (p := ⟨gbC7, 2, none⟩) (Kd.R_far (p := ⟨gbC7, 1, none⟩) (Kd.R_far (p := ⟨gbC7, 0, none⟩) (Kd.R_types HOBQ.out BKC7.out (by decide)) (fun _ hk => hk.2) (.int .i64 tC0)) (fun _ hk => hk.2) (.int .i64 tC1)) (fun _ hk => hk.2) (.int .i64 tC2)) (fun _ hk => hk.2) (.slice Ao37 tC3.length co37)) (fun _ h_ => h_.1))) hb); have n2_ := Aside0.mk (Kd.R_below (by (with_reducible repeat (first | apply Kd.R_alloc | apply Kd.R_drewN | apply Kd.R_drew)); exact (Kd.R_mono (Kd.R_far (p := ⟨gbC7, 3, none⟩) (Kd.R_far (p := ⟨gbC7, 2, none⟩) (Kd.R_far (p := ⟨gbC7, 1, none⟩) (Kd.R_far (p := ⟨gbC7, 0, none⟩) (Kd.R_types HOBY.out BKC7.out (by decide)) (fun _ hk => hk.2) (.int .i64 tC0)) (fun _ hk => hk.2) (.int .i64 tC1)) (fun _ hk => hk.2) (.int .i64 tC2)) (fun _ hk => hk.2) (.slice Ao37 tC3.length co37)) (fun _ h_ => h_.1))) hb); have n3_ := Aside0.mk (Kd.R_below (by (with_reducible repeat (first | apply Kd.R_alloc | apply Kd.R_drewN | apply Kd.R_drew)); exact (Kd.R_mono (Kd.R_far (p := ⟨gbC7, 3, none⟩) (Kd.R_far (p := ⟨gbC7, 2, none⟩) (Kd.R_far (p := ⟨gbC7, 1, none⟩) (Kd.R_far (p := ⟨gbC7, 0, none⟩) (Kd.R_types HOC5.out BKC7.out (by decide)) (fun _ hk => hk.2) (.int .i64 tC0)) (fun _ hk => hk.2) (.int .i64 tC1)) (fun _ hk => hk.2) (.int .i64 tC2)) (fun _ hk => hk.2) (.slice Ao37 tC3.length co37)) (fun _ h_ => h_.1))) hb); have n4_ := Aside0.mk (blk_below (g := gbBD) (o := .cells #[.int .i64 a0_0, .int .i64 a0_1, .int .i64 a0_2, .slice A0_3 l0_3.length c0_3] 24 (0, 0)) (by (with_reducible repeat (first | refine blk_drewN ?_ _ | refine blk_drew ?_ | refine blk_alloc ?_ _)); refine blk_far ?_ NBBD_C7.out _; (with_reducible repeat (first | refine blk_drewN ?_ _ | refine blk_drew ?_ | refine blk_alloc ?_ _)); refine blk_far ?_ NBBD_C7.out _; (with_reducible repeat (first | refine blk_drewN ?_ _ | refine blk_drew ?_ | refine blk_alloc ?_ _)); refine blk_far ?_ NBBD_C7.out _; (with_reducible repeat (first | refine blk_drewN ?_ _ | refine blk_drew ?_ | refine blk_alloc ?_ _)); refine blk_far ?_ NBBD_C7.out _; (with_reducible repeat (first | refine blk_drewN ?_ _ | refine blk_drew ?_ | refine blk_alloc ?_ _)); exact BKBD.out) hb); have n5_ := Aside0.mk (blk_below (g := gbBS) (o := .cells #[.int .i64 tBL, .int .i64 tBM, .int .i64 tBN, .slice Ao23 tBO.length co23] 32 (0, 0)) (by (with_reducible repeat (first | refine blk_drewN ?_ _ | refine blk_drew ?_ | refine blk_alloc ?_ _)); refine blk_far ?_ NBBS_C7.out _; (with_reducible repeat (first | refine blk_drewN ?_ _ | refine blk_drew ?_ | refine blk_alloc ?_ _)); refine blk_far ?_ NBBS_C7.out _; (with_reducible repeat (first | refine blk_drewN ?_ _ | refine blk_drew ?_ | refine blk_alloc ?_ _)); refine blk_far ?_ NBBS_C7.out _; (with_reducible repeat (first | refine blk_drewN ?_ _ | refine blk_drew ?_ | refine blk_alloc ?_ _)); refine blk_far ?_ NBBS_C7.out _; (with_reducible repeat (first | refine blk_drewN ?_ _ | refine blk_drew ?_ | refine blk_alloc ?_ _)); exact BKBS.out) hb); have n6_ := Aside0.mk (blk_below (g := gbBZ) (o := .cells #[.int .i64 tBT, .int .i64 tBU, .int .i64 tBV, .slice Ao30 tBW.length co30] 32 (0, 0)) (by (with_reducible repeat (first | refine blk_drewN ?_ _ | refine blk_drew ?_ | refine blk_alloc ?_ _)); refine blk_far ?_ NBBZ_C7.out _; (with_reducible repeat (first | refine blk_drewN ?_ _ | refine blk_drew ?_ | refine blk_alloc ?_ _)); refine blk_far ?_ NBBZ_C7.out _; (with_reducible repeat (first | refine blk_drewN ?_ _ | refine blk_drew ?_ | refine blk_alloc ?_ _)); refine blk_far ?_ NBBZ_C7.out _; (with_reducible repeat (first | refine blk_drewN ?_ _ | refine blk_drew ?_ | refine blk_alloc ?_ _)); refine blk_far ?_ NBBZ_C7.out _; (with_reducible repeat (first | refine blk_drewN ?_ _ | refine blk_drew ?_ | refine blk_alloc ?_ _)); exact BKBZ.out) hb); have n7_ := Aside0.mk (blk_below (g := gbC7) (o := .cells #[.int .i64 tC0, .int .i64 tC1, .int .i64 tC2, .slice Ao37 tC3.length co37] 32 (0, 0)) (by (with_reducible repeat (first | refine blk_drewN ?_ _ | refine blk_drew ?_ | refine blk_alloc ?_ _)); refine blk_put (cs := #[.int .i64 tC0, .int .i64 tC1, .int .i64 tC2, .slice none 0 0]) ?_ 3 _ rfl; (with_reducible repeat (first | refine blk_drewN ?_ _ | refine blk_drew ?_ | refine blk_alloc ?_ _)); refine blk_put (cs := #[.int .i64 tC0, .int .i64 tC1, .int .i64 0, .slice none 0 0]) ?_ 2 _ rfl; (with_reducible repeat (first | refine blk_drewN ?_ _ | refine blk_drew ?_ | refine blk_alloc ?_ _)); refine blk_put (cs := #[.int .i64 tC0, .int .i64 0, .int .i64 0, .slice none 0 0]) ?_ 1 _ rfl; (with_reducible repeat (first | refine blk_drewN ?_ _ | refine blk_drew ?_ | refine blk_alloc ?_ _)); refine blk_put (cs := #[.int .i64 0, .int .i64 0, .int .i64 0, .slice none 0 0]) ?_ 0 _ rfl; (with_reducible repeat (first | refine blk_drewN ?_ _ | refine blk_drew ?_ | refine blk_alloc ?_ _)); exact BKC7.out) hb); have n8_ := Aside0.mk (below_step belS hb); clear HOBK; clear HOBQ; clear HOBY; clear HOC5; clear BKBD; clear BKBS; clear BKBZ; clear BKC7; clear HB; have HOBK := n0_; have HOBQ := n1_; have HOBY := n2_; have HOC5 := n3_; have BKBD := n4_; have BKBS := n5_; have BKBZ := n6_; have BKC7 := n7_; have HB := n8_; clear n0_ n1_ n2_ n3_ n4_ n5_ n6_ n7_ n8_; (try clear hb); (try clear hb2); (try clear hk); (try clear hi)))
    go_meet
    case rel => exact ⟨_, ((tC6 != tBR)), (by first | rfl | (simp; done) | (simp [*]; done)), H', ⟨by first | omega | exact Nat.le_refl _⟩, ⟨by (with_reducible repeat (first | apply Kd.R_alloc | apply Kd.R_drewN | apply Kd.R_drew)); exact Kd.R_mono HOBQ.out (fun _ hk => ⟨hk.1.2, hk.2⟩)⟩, ⟨by (with_reducible repeat (first | apply Kd.R_alloc | apply Kd.R_drewN | apply Kd.R_drew)); exact Kd.R_mono HOBY.out (fun _ hk => ⟨hk.1.2, hk.2⟩)⟩, ⟨by (with_reducible repeat (first | apply Kd.R_alloc | apply Kd.R_drewN | apply Kd.R_drew)); exact Kd.R_mono HOC5.out (fun _ hk => ⟨hk.1.2, hk.2⟩)⟩, ⟨by (with_reducible repeat (first | refine blk_drewN ?_ _ | refine blk_drew ?_ | refine blk_alloc ?_ _)); exact BKBD.out⟩, ⟨by (with_reducible repeat (first | refine blk_drewN ?_ _ | refine blk_drew ?_ | refine blk_alloc ?_ _)); exact BKBS.out⟩, ⟨by (with_reducible repeat (first | refine blk_drewN ?_ _ | refine blk_drew ?_ | refine blk_alloc ?_ _)); exact BKBZ.out⟩, ⟨by (with_reducible repeat (first | refine blk_drewN ?_ _ | refine blk_drew ?_ | refine blk_alloc ?_ _)); exact BKC7.out⟩, ⟨by exact belS⟩⟩
   ·replace c39 := Bool.eq_false_iff.mpr c39
    subst c39
    have H1 : (laws_FnExactDropJump.j0 k a1 tBR tC6 true a0_0 a0_1 a0_2 l0_3 tBL tBM tBN tBO tBT tBU tBV tBW tC0 tC1 tC2 tC3) = some r := by rw [if_neg (show ¬ (false = true) by decide)] at H; exact H
    clear H
    have H := H1
    clear H1
    have H' := Aside0.mk H
    clear H
    have hnb48 := NBC7_BD.out
    have hnc48 := NBBD_C7.out
    have hnb49 := NBC7_BS.out
    have hnc49 := NBBS_C7.out
    have hnb50 := NBC7_BZ.out
    have hnc50 := NBBZ_C7.out
    obtain ⟨hcz51_0, hcz51_1, hcz51_2, hcz51_3, hfz51_0, hfz51_1, hfz51_2, hfz51_3⟩ := blk4 BKC7.out
    have hnb52 := NBBS_BD.out
    have hnc52 := NBBD_BS.out
    have hnb53 := NBBS_BZ.out
    have hnc53 := NBBZ_BS.out
    obtain ⟨hcz54_0, hcz54_1, hcz54_2, hcz54_3, hfz54_0, hfz54_1, hfz54_2, hfz54_3⟩ := blk4 BKBS.out
    go_wp2_with (first | ((with_reducible refine gate_callee (f := 42) rfl ?_); refine goesL_ (some 38) rfl rfl Try.func42 (by kernel_rfl) rfl #[.agg #[.int .i64 tC0, .int .i64 tC1, .int .i64 tC2, .slice Ao37 tC3.length co37], .agg #[.int .i64 tBL, .int .i64 tBM, .int .i64 tBN, .slice Ao23 tBO.length co23]] rfl argS ?_; (with_reducible refine (laws_eqBoard.calls k tC0 tC1 tC2 _ _ tC3 tBL tBM tBN _ _ tBO false _ ?side1 ?side2 ?side3 ?side4 A38.out).mono ?_); (case side1 => refine (Kd.R_reads' (e := 27) (base := w.heap.size) (ok := fun k_ => (((True ∧ some k_ ≠ (.slice Ao18 tBI.length co18 : Value).ownBlock) ∧ some k_ ≠ (.slice Ao23 tBO.length co23 : Value).ownBlock) ∧ some k_ ≠ (.slice Ao30 tBW.length co30 : Value).ownBlock)) (n := tC3.length) (c := co37) ?_).2.2; exact (by (with_reducible repeat (first | apply Kd.R_alloc | apply Kd.R_drewN | apply Kd.R_drew)); exact (Kd.R_mono (Kd.R_far (p := ⟨gbC7, 3, none⟩) (Kd.R_far (p := ⟨gbC7, 2, none⟩) (Kd.R_far (p := ⟨gbC7, 1, none⟩) (Kd.R_far (p := ⟨gbC7, 0, none⟩) (Kd.R_types HOC5.out BKC7.out (by decide)) (fun _ hk => hk.2) (.int .i64 tC0)) (fun _ hk => hk.2) (.int .i64 tC1)) (fun _ hk => hk.2) (.int .i64 tC2)) (fun _ hk => hk.2) (.slice Ao37 tC3.length co37)) (fun _ h_ => h_.1)))); (case side2 => exact (Kd.R_reads' HOC5.out).2.1); (case side3 => refine (Kd.R_reads' (e := 27) (base := w.heap.size) (ok := fun k_ => (((True ∧ some k_ ≠ (.slice Ao18 tBI.length co18 : Value).ownBlock) ∧ some k_ ≠ (.slice Ao30 tBW.length co30 : Value).ownBlock) ∧ some k_ ≠ (.slice Ao37 tC3.length co37 : Value).ownBlock)) (n := tBO.length) (c := co23) ?_).2.2; exact (by (with_reducible repeat (first | apply Kd.R_alloc | apply Kd.R_drewN | apply Kd.R_drew)); exact (Kd.R_mono (Kd.R_far (p := ⟨gbC7, 3, none⟩) (Kd.R_far (p := ⟨gbC7, 2, none⟩) (Kd.R_far (p := ⟨gbC7, 1, none⟩) (Kd.R_far (p := ⟨gbC7, 0, none⟩) (Kd.R_types HOBQ.out BKC7.out (by decide)) (fun _ hk => hk.2) (.int .i64 tC0)) (fun _ hk => hk.2) (.int .i64 tC1)) (fun _ hk => hk.2) (.int .i64 tC2)) (fun _ hk => hk.2) (.slice Ao37 tC3.length co37)) (fun _ h_ => h_.1)))); (case side4 => exact (Kd.R_reads' HOBQ.out).2.1); rintro e w55 ⟨rfl, hb⟩; refine ⟨_, rfl, ?_⟩; have n0_ := Aside0.mk (Kd.R_below (by (with_reducible repeat (first | apply Kd.R_alloc | apply Kd.R_drewN | apply Kd.R_drew)); exact (Kd.R_mono (Kd.R_far (p := ⟨gbC7, 3, none⟩) (Kd.R_far (p := ⟨gbC7, 2, none⟩) (Kd.R_far (p := ⟨gbC7, 1, none⟩) (Kd.R_far (p := ⟨gbC7, 0, none⟩) (Kd.R_types HOBK.out BKC7.out (by decide)) (fun _ hk => hk.2) (.int .i64 tC0)) (fun _ hk => hk.2) (.int .i64 tC1)) (fun _ hk => hk.2) (.int .i64 tC2)) (fun _ hk => hk.2) (.slice Ao37 tC3.length co37)) (fun _ h_ => h_.1))) hb); have n1_ := Aside0.mk (Kd.R_below (by (with_reducible repeat (first | apply Kd.R_alloc | apply Kd.R_drewN | apply Kd.R_drew)); exact (Kd.R_mono (Kd.R_far (p := ⟨gbC7, 3, none⟩) (Kd.R_far (p := ⟨gbC7, 2, none⟩) (Kd.R_far (p := ⟨gbC7, 1, none⟩) (Kd.R_far (p := ⟨gbC7, 0, none⟩) (Kd.R_types HOBQ.out BKC7.out (by decide)) (fun _ hk => hk.2) (.int .i64 tC0)) (fun _ hk => hk.2) (.int .i64 tC1)) (fun _ hk => hk.2) (.int .i64 tC2)) (fun _ hk => hk.2) (.slice Ao37 tC3.length co37)) (fun _ h_ => h_.1))) hb); have n2_ := Aside0.mk (Kd.R_below (by (with_reducible repeat (first | apply Kd.R_alloc | apply Kd.R_drewN | apply Kd.R_drew)); exact (Kd.R_mono (Kd.R_far (p := ⟨gbC7, 3, none⟩) (Kd.R_far (p := ⟨gbC7, 2, none⟩) (Kd.R_far (p := ⟨gbC7, 1, none⟩) (Kd.R_far (p := ⟨gbC7, 0, none⟩) (Kd.R_types HOBY.out BKC7.out (by decide)) (fun _ hk => hk.2) (.int .i64 tC0)) (fun _ hk => hk.2) (.int .i64 tC1)) (fun _ hk => hk.2) (.int .i64 tC2)) (fun _ hk => hk.2) (.slice Ao37 tC3.length co37)) (fun _ h_ => h_.1))) hb); have n3_ := Aside0.mk (Kd.R_below (by (with_reducible repeat (first | apply Kd.R_alloc | apply Kd.R_drewN | apply Kd.R_drew)); exact (Kd.R_mono (Kd.R_far (p := ⟨gbC7, 3, none⟩) (Kd.R_far (p := ⟨gbC7, 2, none⟩) (Kd.R_far (p := ⟨gbC7, 1, none⟩) (Kd.R_far (p := ⟨gbC7, 0, none⟩) (Kd.R_types HOC5.out BKC7.out (by decide)) (fun _ hk => hk.2) (.int .i64 tC0)) (fun _ hk => hk.2) (.int .i64 tC1)) (fun _ hk => hk.2) (.int .i64 tC2)) (fun _ hk => hk.2) (.slice Ao37 tC3.length co37)) (fun _ h_ => h_.1))) hb); have n4_ := Aside0.mk (blk_below (g := gbBD) (o := .cells #[.int .i64 a0_0, .int .i64 a0_1, .int .i64 a0_2, .slice A0_3 l0_3.length c0_3] 24 (0, 0)) (by (with_reducible repeat (first | refine blk_drewN ?_ _ | refine blk_drew ?_ | refine blk_alloc ?_ _)); refine blk_far ?_ NBBD_C7.out _; (with_reducible repeat (first | refine blk_drewN ?_ _ | refine blk_drew ?_ | refine blk_alloc ?_ _)); refine blk_far ?_ NBBD_C7.out _; (with_reducible repeat (first | refine blk_drewN ?_ _ | refine blk_drew ?_ | refine blk_alloc ?_ _)); refine blk_far ?_ NBBD_C7.out _; (with_reducible repeat (first | refine blk_drewN ?_ _ | refine blk_drew ?_ | refine blk_alloc ?_ _)); refine blk_far ?_ NBBD_C7.out _; (with_reducible repeat (first | refine blk_drewN ?_ _ | refine blk_drew ?_ | refine blk_alloc ?_ _)); exact BKBD.out) hb); have n5_ := Aside0.mk (blk_below (g := gbBS) (o := .cells #[.int .i64 tBL, .int .i64 tBM, .int .i64 tBN, .slice Ao23 tBO.length co23] 32 (0, 0)) (by (with_reducible repeat (first | refine blk_drewN ?_ _ | refine blk_drew ?_ | refine blk_alloc ?_ _)); refine blk_far ?_ NBBS_C7.out _; (with_reducible repeat (first | refine blk_drewN ?_ _ | refine blk_drew ?_ | refine blk_alloc ?_ _)); refine blk_far ?_ NBBS_C7.out _; (with_reducible repeat (first | refine blk_drewN ?_ _ | refine blk_drew ?_ | refine blk_alloc ?_ _)); refine blk_far ?_ NBBS_C7.out _; (with_reducible repeat (first | refine blk_drewN ?_ _ | refine blk_drew ?_ | refine blk_alloc ?_ _)); refine blk_far ?_ NBBS_C7.out _; (with_reducible repeat (first | refine blk_drewN ?_ _ | refine blk_drew ?_ | refine blk_alloc ?_ _)); exact BKBS.out) hb); have n6_ := Aside0.mk (blk_below (g := gbBZ) (o := .cells #[.int .i64 tBT, .int .i64 tBU, .int .i64 tBV, .slice Ao30 tBW.length co30] 32 (0, 0)) (by (with_reducible repeat (first | refine blk_drewN ?_ _ | refine blk_drew ?_ | refine blk_alloc ?_ _)); refine blk_far ?_ NBBZ_C7.out _; (with_reducible repeat (first | refine blk_drewN ?_ _ | refine blk_drew ?_ | refine blk_alloc ?_ _)); refine blk_far ?_ NBBZ_C7.out _; (with_reducible repeat (first | refine blk_drewN ?_ _ | refine blk_drew ?_ | refine blk_alloc ?_ _)); refine blk_far ?_ NBBZ_C7.out _; (with_reducible repeat (first | refine blk_drewN ?_ _ | refine blk_drew ?_ | refine blk_alloc ?_ _)); refine blk_far ?_ NBBZ_C7.out _; (with_reducible repeat (first | refine blk_drewN ?_ _ | refine blk_drew ?_ | refine blk_alloc ?_ _)); exact BKBZ.out) hb); have n7_ := Aside0.mk (blk_below (g := gbC7) (o := .cells #[.int .i64 tC0, .int .i64 tC1, .int .i64 tC2, .slice Ao37 tC3.length co37] 32 (0, 0)) (by (with_reducible repeat (first | refine blk_drewN ?_ _ | refine blk_drew ?_ | refine blk_alloc ?_ _)); refine blk_put (cs := #[.int .i64 tC0, .int .i64 tC1, .int .i64 tC2, .slice none 0 0]) ?_ 3 _ rfl; (with_reducible repeat (first | refine blk_drewN ?_ _ | refine blk_drew ?_ | refine blk_alloc ?_ _)); refine blk_put (cs := #[.int .i64 tC0, .int .i64 tC1, .int .i64 0, .slice none 0 0]) ?_ 2 _ rfl; (with_reducible repeat (first | refine blk_drewN ?_ _ | refine blk_drew ?_ | refine blk_alloc ?_ _)); refine blk_put (cs := #[.int .i64 tC0, .int .i64 0, .int .i64 0, .slice none 0 0]) ?_ 1 _ rfl; (with_reducible repeat (first | refine blk_drewN ?_ _ | refine blk_drew ?_ | refine blk_alloc ?_ _)); refine blk_put (cs := #[.int .i64 0, .int .i64 0, .int .i64 0, .slice none 0 0]) ?_ 0 _ rfl; (with_reducible repeat (first | refine blk_drewN ?_ _ | refine blk_drew ?_ | refine blk_alloc ?_ _)); exact BKC7.out) hb); have n8_ := Aside0.mk (below_step belS hb); clear HOBK; clear HOBQ; clear HOBY; clear HOC5; clear BKBD; clear BKBS; clear BKBZ; clear BKC7; clear HB; have HOBK := n0_; have HOBQ := n1_; have HOBY := n2_; have HOC5 := n3_; have BKBD := n4_; have BKBS := n5_; have BKBZ := n6_; have BKC7 := n7_; have HB := n8_; clear n0_ n1_ n2_ n3_ n4_ n5_ n6_ n7_ n8_; (try clear hb); (try clear hb2); (try clear hk); (try clear hi)))
    go_meet
    case rel => exact ⟨_, (true), (by first | rfl | (simp; done) | (simp [*]; done)), H', ⟨by first | omega | exact Nat.le_refl _⟩, ⟨by (with_reducible repeat (first | apply Kd.R_alloc | apply Kd.R_drewN | apply Kd.R_drew)); exact Kd.R_mono HOBQ.out (fun _ hk => ⟨hk.1.2, hk.2⟩)⟩, ⟨by (with_reducible repeat (first | apply Kd.R_alloc | apply Kd.R_drewN | apply Kd.R_drew)); exact Kd.R_mono HOBY.out (fun _ hk => ⟨hk.1.2, hk.2⟩)⟩, ⟨by (with_reducible repeat (first | apply Kd.R_alloc | apply Kd.R_drewN | apply Kd.R_drew)); exact Kd.R_mono HOC5.out (fun _ hk => ⟨hk.1.2, hk.2⟩)⟩, ⟨by (with_reducible repeat (first | refine blk_drewN ?_ _ | refine blk_drew ?_ | refine blk_alloc ?_ _)); exact BKBD.out⟩, ⟨by (with_reducible repeat (first | refine blk_drewN ?_ _ | refine blk_drew ?_ | refine blk_alloc ?_ _)); exact BKBS.out⟩, ⟨by (with_reducible repeat (first | refine blk_drewN ?_ _ | refine blk_drew ?_ | refine blk_alloc ?_ _)); exact BKBZ.out⟩, ⟨by (with_reducible repeat (first | refine blk_drewN ?_ _ | refine blk_drew ?_ | refine blk_alloc ?_ _)); exact BKC7.out⟩, ⟨by exact belS⟩⟩
  case rest =>
   clear HC12
   try clear c1
   try clear c2
   try clear p2
   try clear c3
   try clear c4
   try clear c4b0
   try clear c5
   try clear c11
   try clear c21
   try clear c27
   try clear c28
   try clear c31
   try clear c33
   try clear c34
   try clear c35
   try clear c37
   try clear c39
   try clear c40
   try clear c41
   try clear c42
   try clear c44
   try clear c45
   try clear c48
   try clear c49
   try clear c50
   try clear c52
   try clear c53
   try clear hcz14_0 hcz14_1 hcz14_2 hcz14_3
   try clear hcz16_0 hcz16_1 hcz16_2 hcz16_3
   try clear hcz22_0 hcz22_1 hcz22_2 hcz22_3
   try clear hcz24_0 hcz24_1 hcz24_2 hcz24_3
   try clear hcz29_0 hcz29_1 hcz29_2 hcz29_3
   try clear hcz36_0 hcz36_1 hcz36_2 hcz36_3
   try clear hcz43_0 hcz43_1 hcz43_2 hcz43_3
   try clear hcz46_0 hcz46_1 hcz46_2 hcz46_3
   try clear hcz51_0 hcz51_1 hcz51_2 hcz51_3
   try clear hcz54_0 hcz54_1 hcz54_2 hcz54_3
   try clear hcz6_0 hcz6_1 hcz6_2 hcz6_3
   try clear hfz14_0 hfz14_1 hfz14_2 hfz14_3
   try clear hfz16_0 hfz16_1 hfz16_2 hfz16_3
   try clear hfz22_0 hfz22_1 hfz22_2 hfz22_3
   try clear hfz24_0 hfz24_1 hfz24_2 hfz24_3
   try clear hfz29_0 hfz29_1 hfz29_2 hfz29_3
   try clear hfz36_0 hfz36_1 hfz36_2 hfz36_3
   try clear hfz43_0 hfz43_1 hfz43_2 hfz43_3
   try clear hfz46_0 hfz46_1 hfz46_2 hfz46_3
   try clear hfz51_0 hfz51_1 hfz51_2 hfz51_3
   try clear hfz54_0 hfz54_1 hfz54_2 hfz54_3
   try clear hfz6_0 hfz6_1 hfz6_2 hfz6_3
   obtain ⟨kq, x44_11, rfl, HA, HJ11, HO_BT003, HO_C0003, HO_C8003, BKBD, BKBS, BKBZ, BKC7, HB⟩ := hcut
   cases kq with
   | zero => exact absurd HA.out (by simp [laws_FnExactDropJump.j0])
   | succ kj11 =>
    have H := HA.out
    clear HA
    simp only [laws_FnExactDropJump.j0] at H
    by_cases c56 : x44_11 = true
    ·subst c56
     have H1 : (some false) = some r := by rw [if_pos rfl] at H; exact H
     clear H
     have H := H1
     clear H1
     obtain rfl := Option.some.inj H
     go_wp2
     go_ret
     exact ⟨by first | rfl | (simp [errW_none, errW_some] <;> rfl) | (simp [*, errW_none, errW_some] <;> rfl), by exact belS⟩
    ·replace c56 := Bool.eq_false_iff.mpr c56
     subst c56
     have H1 : ((laws_toBoard.f kj11 a0_0 a0_1 a0_2 l0_3).bind fun btC9 => ((laws_eqBoard.f kj11 tBT tBU tBV tBW btC9.1 btC9.2.1 btC9.2.2.1 btC9.2.2.2).bind fun tCf => (if tCf = true then ((laws_markBoard.f kj11 tBT tBU tBV tBW 1).bind fun btCg => (if btCg.1 < 0 then (laws_FnExactDropJump.j1 kj11 a1 tBR true a0_0 a0_1 a0_2 l0_3 tBL tBM tBN tBO tC0 tC1 tC2 tC3) else ((laws_eqBoard.f kj11 tC0 tC1 tC2 tC3 tBL tBM tBN tBO).bind fun tCi => (if tCi = true then (laws_FnExactDropJump.j1 kj11 a1 tBR (tC6 != tBR) a0_0 a0_1 a0_2 l0_3 tBL tBM tBN tBO tC0 tC1 tC2 tC3) else (laws_FnExactDropJump.j1 kj11 a1 tBR true a0_0 a0_1 a0_2 l0_3 tBL tBM tBN tBO tC0 tC1 tC2 tC3))))) else (some false)))) = some r := by rw [if_neg (show ¬ (false = true) by decide)] at H; exact H
     clear H
     have H := H1
     clear H1
     replace H := Option.bind_eq_some_iff.mp H
     obtain ⟨⟨tC9, tCa, tCb, tCc⟩, A570, H⟩ := H
     replace H : ((laws_eqBoard.f kj11 tBT tBU tBV tBW tC9 tCa tCb tCc).bind fun tCf => (if tCf = true then ((laws_markBoard.f kj11 tBT tBU tBV tBW 1).bind fun btCg => (if btCg.1 < 0 then (laws_FnExactDropJump.j1 kj11 a1 tBR true a0_0 a0_1 a0_2 l0_3 tBL tBM tBN tBO tC0 tC1 tC2 tC3) else ((laws_eqBoard.f kj11 tC0 tC1 tC2 tC3 tBL tBM tBN tBO).bind fun tCi => (if tCi = true then (laws_FnExactDropJump.j1 kj11 a1 tBR (tC6 != tBR) a0_0 a0_1 a0_2 l0_3 tBL tBM tBN tBO tC0 tC1 tC2 tC3) else (laws_FnExactDropJump.j1 kj11 a1 tBR true a0_0 a0_1 a0_2 l0_3 tBL tBM tBN tBO tC0 tC1 tC2 tC3))))) else (some false))) = some r := H
     have A57 := Aside0.mk A570
     clear A570
     replace H := Option.bind_eq_some_iff.mp H
     obtain ⟨tCf, A580, H⟩ := H
     replace H : (if tCf = true then ((laws_markBoard.f kj11 tBT tBU tBV tBW 1).bind fun btCg => (if btCg.1 < 0 then (laws_FnExactDropJump.j1 kj11 a1 tBR true a0_0 a0_1 a0_2 l0_3 tBL tBM tBN tBO tC0 tC1 tC2 tC3) else ((laws_eqBoard.f kj11 tC0 tC1 tC2 tC3 tBL tBM tBN tBO).bind fun tCi => (if tCi = true then (laws_FnExactDropJump.j1 kj11 a1 tBR (tC6 != tBR) a0_0 a0_1 a0_2 l0_3 tBL tBM tBN tBO tC0 tC1 tC2 tC3) else (laws_FnExactDropJump.j1 kj11 a1 tBR true a0_0 a0_1 a0_2 l0_3 tBL tBM tBN tBO tC0 tC1 tC2 tC3))))) else (some false)) = some r := H
     have A58 := Aside0.mk A580
     clear A580
     by_cases c59 : tCf = true
     ·subst c59
      have H1 : ((laws_markBoard.f kj11 tBT tBU tBV tBW 1).bind fun btCg => (if btCg.1 < 0 then (laws_FnExactDropJump.j1 kj11 a1 tBR true a0_0 a0_1 a0_2 l0_3 tBL tBM tBN tBO tC0 tC1 tC2 tC3) else ((laws_eqBoard.f kj11 tC0 tC1 tC2 tC3 tBL tBM tBN tBO).bind fun tCi => (if tCi = true then (laws_FnExactDropJump.j1 kj11 a1 tBR (tC6 != tBR) a0_0 a0_1 a0_2 l0_3 tBL tBM tBN tBO tC0 tC1 tC2 tC3) else (laws_FnExactDropJump.j1 kj11 a1 tBR true a0_0 a0_1 a0_2 l0_3 tBL tBM tBN tBO tC0 tC1 tC2 tC3))))) = some r := by rw [if_pos rfl] at H; exact H
      clear H
      have H := H1
      clear H1
      replace H := Option.bind_eq_some_iff.mp H
      obtain ⟨⟨tCg, tCh⟩, A600, H⟩ := H
      replace H : (if tCg < 0 then (laws_FnExactDropJump.j1 kj11 a1 tBR true a0_0 a0_1 a0_2 l0_3 tBL tBM tBN tBO tC0 tC1 tC2 tC3) else ((laws_eqBoard.f kj11 tC0 tC1 tC2 tC3 tBL tBM tBN tBO).bind fun tCi => (if tCi = true then (laws_FnExactDropJump.j1 kj11 a1 tBR (tC6 != tBR) a0_0 a0_1 a0_2 l0_3 tBL tBM tBN tBO tC0 tC1 tC2 tC3) else (laws_FnExactDropJump.j1 kj11 a1 tBR true a0_0 a0_1 a0_2 l0_3 tBL tBM tBN tBO tC0 tC1 tC2 tC3)))) = some r := H
      have A60 := Aside0.mk A600
      clear A600
      have HC61 := Aside0.mk H
      clear H
      try go_wp2
      have n0_ := Aside0.mk (Kd.R_drew HO_BT003.out)
      have n1_ := Aside0.mk (Kd.R_drew HO_C0003.out)
      have n2_ := Aside0.mk (Kd.R_drew HO_C8003.out)
      have n3_ := Aside0.mk (blk_drew BKBD.out)
      have n4_ := Aside0.mk (blk_drew BKBS.out)
      have n5_ := Aside0.mk (blk_drew BKBZ.out)
      have n6_ := Aside0.mk (blk_drew BKC7.out)
      have n7_ := Aside0.mk (below_drew1 HB.out)
      clear HO_BT003
      clear HO_C0003
      clear HO_C8003
      clear BKBD
      clear BKBS
      clear BKBZ
      clear BKC7
      clear HB
      have HO_BT003 := n0_
      have HO_C0003 := n1_
      have HO_C8003 := n2_
      have BKBD := n3_
      have BKBS := n4_
      have BKBZ := n5_
      have BKC7 := n6_
      have HB := n7_
      clear n0_ n1_ n2_ n3_ n4_ n5_ n6_ n7_
      refine start_ (n := 5) (S := fun w' => w'.cell? ⟨gbBZ, 0, none⟩ = some (.int .i64 tBT) ∧ w'.cell? ⟨gbBZ, 1, none⟩ = some (.int .i64 tBU) ∧ w'.cell? ⟨gbBZ, 2, none⟩ = some (.int .i64 tBV) ∧ w'.cell? ⟨gbBZ, 3, none⟩ = some (.slice Ao30 tBW.length co30) ∧ w'.cell? ⟨gbBD, 0, none⟩ = some (.int .i64 a0_0) ∧ w'.cell? ⟨gbBD, 1, none⟩ = some (.int .i64 a0_1) ∧ w'.cell? ⟨gbBD, 2, none⟩ = some (.int .i64 a0_2) ∧ w'.cell? ⟨gbBD, 3, none⟩ = some (.slice A0_3 l0_3.length c0_3)) (ds := []) #[false, false, false, false, false] (by kernel_rfl) rfl rfl ⟨(blk_cell BKBZ.out 0).trans rfl, (blk_cell BKBZ.out 1).trans rfl, (blk_cell BKBZ.out 2).trans rfl, (blk_cell BKBZ.out 3).trans rfl, (blk_cell BKBD.out 0).trans rfl, (blk_cell BKBD.out 1).trans rfl, (blk_cell BKBD.out 2).trans rfl, (blk_cell BKBD.out 3).trans rfl⟩ (fun hHeld => ?_)
      generalize wc.drew = w62 at HO_BT003 HO_C0003 HO_C8003 BKBD BKBS BKBZ BKC7 HB hHeld ⊢
      refine take_ (i := 0) (N := some 45) (v := ?_) (a' := ?_) #[true, false, false, false, false] rfl rfl (by kernel_rfl) (fun _ _ _ h => h) (Or.inl ⟨by rfl, ?_⟩) hHeld ?_ ?_
      rotate_left
      ·rintro w' ⟨s0, s1, s2, s3, s4, s5, s6, s7⟩
       go_simp
       with_reducible rfl
      rotate_left
      ·simp only [Act.put, List.setIfInBounds_toArray, List.set_cons_zero, List.set_cons_succ, i64_w, i32_w]
       rfl
      refine take_ (i := 1) (N := some 46) (v := ?_) (a' := ?_) #[true, true, false, false, false] rfl rfl (by kernel_rfl) (fun _ _ _ h => h) (Or.inl ⟨by rfl, ?_⟩) hHeld ?_ ?_
      rotate_left
      ·rintro w' ⟨s0, s1, s2, s3, s4, s5, s6, s7⟩
       go_simp
       with_reducible rfl
      rotate_left
      ·simp only [Act.put, List.setIfInBounds_toArray, List.set_cons_zero, List.set_cons_succ, i64_w, i32_w]
       rfl
      refine one_ (i := 2) (N := some 47) #[true, true, true, false, false] rfl rfl (by kernel_rfl) (by decide) (fun K hK => ?_)
      refine goes_ Try.func39 (by kernel_rfl) rfl #[.agg #[.int .i64 a0_0, .int .i64 a0_1, .int .i64 a0_2, .slice A0_3 l0_3.length c0_3]] (by rfl) rfl rfl argS ?_
      with_reducible refine (laws_toBoard.calls kj11 a0_0 a0_1 a0_2 _ _ l0_3 tC9 tCa tCb tCc _ ?side1 ?side2 A57.out).mono ?_
      (case side1 => exact Kd.C_up (Kd.C_below HR0_3.out HB.out))
      (case side2 => exact HC0_3.out)
      rintro e w63 ⟨vCd, rfl, ho0, hb⟩
      refine ⟨_, rfl, ?_⟩
      have n0_ := Aside0.mk (Kd.R_elder' (Kd.R_up HO_BT003.out) (Kd.R_base ho0) hb)
      have n1_ := Aside0.mk (Kd.R_elder' (Kd.R_up HO_C0003.out) (Kd.R_base ho0) hb)
      have n2_ := Aside0.mk (Kd.R_elder' (Kd.R_up HO_C8003.out) (Kd.R_base ho0) hb)
      have n3_ := Aside0.mk (Kd.R_lower (Kd.R_new' (Kd.R_new' (Kd.R_new' ho0 (Kd.R_lt (Kd.R_up HO_BT003.out))) (Kd.R_lt (Kd.R_up HO_C0003.out))) (Kd.R_lt (Kd.R_up HO_C8003.out))) (below_size belS))
      have n4_ := Aside0.mk (blk_below (blk_up BKBD.out) hb)
      have n5_ := Aside0.mk (blk_below (blk_up BKBS.out) hb)
      have n6_ := Aside0.mk (blk_below (blk_up BKBZ.out) hb)
      have n7_ := Aside0.mk (blk_below (blk_up BKC7.out) hb)
      have n8_ := Aside0.mk (below_step belS hb)
      clear HO_BT003
      clear HO_C0003
      clear HO_C8003
      clear BKBD
      clear BKBS
      clear BKBZ
      clear BKC7
      clear HB
      have HO_BT003 := n0_
      have HO_C0003 := n1_
      have HO_C8003 := n2_
      have HOCe := n3_
      have BKBD := n4_
      have BKBS := n5_
      have BKBZ := n6_
      have BKC7 := n7_
      have HB := n8_
      clear n0_ n1_ n2_ n3_ n4_ n5_ n6_ n7_ n8_
      (try clear hb)
      (try clear hb2)
      (try clear hk)
      (try clear hi)
      (try clear ho0)
      obtain ⟨Ao64, co64, eo64⟩ := Kd.R_slice HOCe.out
      (first | subst eo64 | (injection eo64 with f1_ f2_ f3_; have f4_ := f1_.symm; have f5_ := f3_.symm; clear f1_ f2_ f3_; subst f4_; subst f5_))
      refine hK.out _ _ ⟨(blk_cell BKBZ.out 0).trans rfl, (blk_cell BKBZ.out 1).trans rfl, (blk_cell BKBZ.out 2).trans rfl, (blk_cell BKBZ.out 3).trans rfl, (blk_cell BKBD.out 0).trans rfl, (blk_cell BKBD.out 1).trans rfl, (blk_cell BKBD.out 2).trans rfl, (blk_cell BKBD.out 3).trans rfl⟩ (fun hHeld => ?_)
      clear hK K
      refine norm_ (a' := ?_) ?_ ?_
      rotate_left
      ·show Act.put _ (some 47) _ = _
       simp only [Act.put, List.setIfInBounds_toArray, List.set_cons_zero, List.set_cons_succ, i64_w, i32_w]
       rfl
      refine one_ (i := 3) (N := some 48) #[true, true, true, true, false] rfl rfl (by kernel_rfl) (by decide) (fun K hK => ?_)
      refine goes_ Try.func42 (by kernel_rfl) rfl #[.agg #[.int .i64 tBT, .int .i64 tBU, .int .i64 tBV, .slice Ao30 tBW.length co30], .agg #[.int .i64 tC9, .int .i64 tCa, .int .i64 tCb, .slice Ao64 tCc.length co64]] (by rfl) rfl rfl argS ?_
      with_reducible refine (laws_eqBoard.calls kj11 tBT tBU tBV _ _ tBW tC9 tCa tCb _ _ tCc true _ ?side1 ?side2 ?side3 ?side4 A58.out).mono ?_
      (case side1 => exact Kd.C_up (Kd.R_reads' HO_C0003.out).2.2)
      (case side2 => exact (Kd.R_reads' HO_C0003.out).2.1)
      (case side3 => exact Kd.C_up (Kd.R_reads' HOCe.out).2.2)
      (case side4 => exact (Kd.R_reads' HOCe.out).2.1)
      rintro e w65 ⟨rfl, hb⟩
      refine ⟨_, rfl, ?_⟩
      have n0_ := Aside0.mk (Kd.R_below (Kd.R_up HO_BT003.out) hb)
      have n1_ := Aside0.mk (Kd.R_below (Kd.R_up HO_C0003.out) hb)
      have n2_ := Aside0.mk (Kd.R_below (Kd.R_up HO_C8003.out) hb)
      have n3_ := Aside0.mk (Kd.R_below (Kd.R_up HOCe.out) hb)
      have n4_ := Aside0.mk (blk_below (blk_up BKBD.out) hb)
      have n5_ := Aside0.mk (blk_below (blk_up BKBS.out) hb)
      have n6_ := Aside0.mk (blk_below (blk_up BKBZ.out) hb)
      have n7_ := Aside0.mk (blk_below (blk_up BKC7.out) hb)
      have n8_ := Aside0.mk (below_step belS hb)
      clear HO_BT003
      clear HO_C0003
      clear HO_C8003
      clear HOCe
      clear BKBD
      clear BKBS
      clear BKBZ
      clear BKC7
      clear HB
      have HO_BT003 := n0_
      have HO_C0003 := n1_
      have HO_C8003 := n2_
      have HOCe := n3_
      have BKBD := n4_
      have BKBS := n5_
      have BKBZ := n6_
      have BKC7 := n7_
      have HB := n8_
      clear n0_ n1_ n2_ n3_ n4_ n5_ n6_ n7_ n8_
      (try clear hb)
      (try clear hb2)
      (try clear hk)
      (try clear hi)
      refine hK.out _ _ ⟨(blk_cell BKBZ.out 0).trans rfl, (blk_cell BKBZ.out 1).trans rfl, (blk_cell BKBZ.out 2).trans rfl, (blk_cell BKBZ.out 3).trans rfl, (blk_cell BKBD.out 0).trans rfl, (blk_cell BKBD.out 1).trans rfl, (blk_cell BKBD.out 2).trans rfl, (blk_cell BKBD.out 3).trans rfl⟩ (fun hHeld => ?_)
      clear hK K
      refine norm_ (a' := ?_) ?_ ?_
      rotate_left
      ·show Act.put _ (some 48) _ = _
       simp only [Act.put, List.setIfInBounds_toArray, List.set_cons_zero, List.set_cons_succ, i64_w, i32_w]
       rfl
      refine pure_ (i := 4) (N := some 49) (v := ?_) (a' := ?_) #[true, true, true, true, true] rfl rfl (by kernel_rfl) (fun _ _ _ h => h) (Or.inl ⟨by rfl, ?_⟩) ?_ ?_
      rotate_left
      ·intro w'
       go_simp
       with_reducible rfl
      rotate_left
      ·simp only [Act.put, List.setIfInBounds_toArray, List.set_cons_zero, List.set_cons_succ, i64_w, i32_w]
       rfl
      refine done_ (by kernel_rfl) ?_
      have hnb66 := NBBZ_BD.out
      have hnc66 := NBBD_BZ.out
      have hnb67 := NBBZ_BS.out
      have hnc67 := NBBS_BZ.out
      have hnb68 := NBBZ_C7.out
      have hnc68 := NBC7_BZ.out
      obtain ⟨hcz69_0, hcz69_1, hcz69_2, hcz69_3, hfz69_0, hfz69_1, hfz69_2, hfz69_3⟩ := blk4 BKBZ.out
      go_upto_region 14 with (first | ((with_reducible refine gate_callee (f := 47) rfl ?_); refine goesL_ (some 52) rfl rfl Try.func47 (by kernel_rfl) rfl #[.agg #[.int .i64 tBT, .int .i64 tBU, .int .i64 tBV, .slice Ao30 tBW.length co30], .int .i64 1] rfl argS ?_; (with_reducible refine (laws_markBoard.calls kj11 tBT tBU tBV (fun k_ => some k_ = (.slice Ao30 tBW.length co30 : Value).ownBlock) (.slice Ao30 tBW.length co30) tBW 1 tCg tCh w _ ?side1 ?side2 A60.out).mono ?_); (case side1 => exact belS); (case side2 => exact Kd.R_tight rfl HO_C0003.out); rintro e w70 ⟨rfl, hy0, hb, hkp⟩; refine ⟨_, rfl, ?_⟩; have n0_ := Aside0.mk (Kd.R_mono (ok' := fun k_ => some k_ ≠ (.slice Ao30 tBW.length co30 : Value).ownBlock ∧ some k_ ≠ (.slice Ao37 tC3.length co37 : Value).ownBlock ∧ some k_ ≠ (.slice Ao64 tCc.length co64 : Value).ownBlock) (Kd.R_keptB (HO_BT003.out) hkp (fun k_ hk_ hs_ => (hk_.1.1) hs_)) (fun k_ hk_ => ⟨hk_.1.1.1, hk_.1.1.2, hk_.1.2⟩)); have n1_ := Aside0.mk (Kd.R_reok rfl hy0 (fun k_ e_ => HO_C0003.out.1 k_ e_)); have n2_ := Aside0.mk (Kd.R_mono (ok' := fun k_ => some k_ ≠ (.slice Ao23 tBO.length co23 : Value).ownBlock ∧ some k_ ≠ (.slice Ao30 tBW.length co30 : Value).ownBlock ∧ some k_ ≠ (.slice Ao64 tCc.length co64 : Value).ownBlock) (Kd.R_keptB (HO_C8003.out) hkp (fun k_ hk_ hs_ => (hk_.1.2) hs_)) (fun k_ hk_ => ⟨hk_.1.1.1, hk_.1.1.2, hk_.1.2⟩)); have n3_ := Aside0.mk (blk_kept (blk_up BKBD.out) hkp (fun hs_ => (fun e_ => (Kd.R_ne HO_C0003.out BKBD.out (by decide)) e_) hs_)); have n4_ := Aside0.mk (blk_kept (blk_up BKBS.out) hkp (fun hs_ => (fun e_ => (Kd.R_ne HO_C0003.out BKBS.out (by decide)) e_) hs_)); have n5_ := Aside0.mk (blk_kept (blk_up BKBZ.out) hkp (fun hs_ => (fun e_ => (Kd.R_ne HO_C0003.out BKBZ.out (by decide)) e_) hs_)); have n6_ := Aside0.mk (blk_kept (blk_up BKC7.out) hkp (fun hs_ => (fun e_ => (Kd.R_ne HO_C0003.out BKC7.out (by decide)) e_) hs_)); have n7_ := Aside0.mk (Kd.R_mono (ok' := fun k_ => some k_ ≠ (.slice Ao23 tBO.length co23 : Value).ownBlock ∧ some k_ ≠ (.slice Ao30 tBW.length co30 : Value).ownBlock ∧ some k_ ≠ (.slice Ao37 tC3.length co37 : Value).ownBlock) (Kd.R_keptB (HOCe.out) hkp (fun k_ hk_ hs_ => (hk_.1.2) hs_)) (fun k_ hk_ => ⟨hk_.1.1.1.2, hk_.1.1.2, hk_.1.2⟩)); have n8_ := Aside0.mk (hb); clear HO_BT003; clear HO_C0003; clear HO_C8003; clear BKBD; clear BKBS; clear BKBZ; clear BKC7; clear HOCe; clear HB; have HO_BT003 := n0_; have HO_C0003 := n1_; have HO_C8003 := n2_; have BKBD := n3_; have BKBS := n4_; have BKBZ := n5_; have BKC7 := n6_; have HOCe := n7_; have HB := n8_; clear n0_ n1_ n2_ n3_ n4_ n5_ n6_ n7_ n8_; (try clear hb); (try clear hkp); (try clear hy0)))
      (try simp only [Act.put, List.setIfInBounds_toArray, List.set_cons_zero, List.set_cons_succ])
      go_cut [65] (fun v65 wc => ∃ (kq : Nat) (x65_60 : Bool), v65 = .bool x65_60 ∧ Aside0 (laws_FnExactDropJump.j1 kq a1 tBR x65_60 a0_0 a0_1 a0_2 l0_3 tBL tBM tBN tBO tC0 tC1 tC2 tC3 = some r) ∧ Aside0 (kq ≤ kj11) ∧ Aside0 (Kd.R k27 27 wc w.heap.size (fun k_ => some k_ ≠ ((.slice Ao30 tBW.length co30) : Value).ownBlock ∧ some k_ ≠ ((.slice Ao37 tC3.length co37) : Value).ownBlock) (.slice Ao23 tBO.length co23) tBO) ∧ Aside0 (Kd.R k27 27 wc w.heap.size (fun k_ => some k_ ≠ ((.slice Ao23 tBO.length co23) : Value).ownBlock ∧ some k_ ≠ ((.slice Ao37 tC3.length co37) : Value).ownBlock) (.slice Ao30 tBW.length co30) tCh) ∧ Aside0 (Kd.R k27 27 wc w.heap.size (fun k_ => some k_ ≠ ((.slice Ao23 tBO.length co23) : Value).ownBlock ∧ some k_ ≠ ((.slice Ao30 tBW.length co30) : Value).ownBlock) (.slice Ao37 tC3.length co37) tC3) ∧ Aside0 (wc.heap[gbBD]? = some (.cells #[.int .i64 a0_0, .int .i64 a0_1, .int .i64 a0_2, (.slice A0_3 l0_3.length c0_3)] 24 (0, 0))) ∧ Aside0 (wc.heap[gbBS]? = some (.cells #[.int .i64 tBL, .int .i64 tBM, .int .i64 tBN, (.slice Ao23 tBO.length co23)] 32 (0, 0))) ∧ Aside0 (wc.heap[gbBZ]? = some (.cells #[.int .i64 tBT, .int .i64 tBU, .int .i64 tBV, (.slice Ao30 tBW.length co30)] 32 (0, 0))) ∧ Aside0 (wc.heap[gbC7]? = some (.cells #[.int .i64 tC0, .int .i64 tC1, .int .i64 tC2, (.slice Ao37 tC3.length co37)] 32 (0, 0))) ∧ Aside0 (Below w.heap.size w wc))
      case first =>
       have H := HC61.out
       clear HC61
       by_cases c71 : tCg < 0
       ·rw [if_pos c71] at H
        have c71b0 : decide (tCg < 0) = true := decide_eq_true c71
        clear c71
        (first | rw [c71b0] | (simp only [i64_w, i32_w]; rw [c71b0]) | skip)
        have H' := Aside0.mk H
        clear H
        go_wp2
        go_meet
        case rel => exact ⟨_, (true), (by first | rfl | (simp; done) | (simp [*]; done)), H', ⟨by have := HJ11.out; first | omega | exact Nat.le_refl _⟩, ⟨by (with_reducible repeat (first | apply Kd.R_alloc | apply Kd.R_drewN | apply Kd.R_drew)); exact Kd.R_mono HO_BT003.out (fun _ hk => ⟨hk.1, hk.2.1⟩)⟩, ⟨by (with_reducible repeat (first | apply Kd.R_alloc | apply Kd.R_drewN | apply Kd.R_drew)); exact Kd.R_mono HO_C0003.out (fun _ hk => ⟨hk.1.1, hk.1.2⟩)⟩, ⟨by (with_reducible repeat (first | apply Kd.R_alloc | apply Kd.R_drewN | apply Kd.R_drew)); exact Kd.R_mono HO_C8003.out (fun _ hk => ⟨hk.1, hk.2.1⟩)⟩, ⟨by (with_reducible repeat (first | refine blk_drewN ?_ _ | refine blk_drew ?_ | refine blk_alloc ?_ _)); exact BKBD.out⟩, ⟨by (with_reducible repeat (first | refine blk_drewN ?_ _ | refine blk_drew ?_ | refine blk_alloc ?_ _)); exact BKBS.out⟩, ⟨by (with_reducible repeat (first | refine blk_drewN ?_ _ | refine blk_drew ?_ | refine blk_alloc ?_ _)); exact BKBZ.out⟩, ⟨by (with_reducible repeat (first | refine blk_drewN ?_ _ | refine blk_drew ?_ | refine blk_alloc ?_ _)); exact BKC7.out⟩, ⟨by exact belS⟩⟩
       ·rw [if_neg c71] at H
        have c71b0 : decide (tCg < 0) = false := decide_eq_false c71
        clear c71
        (first | rw [c71b0] | (simp only [i64_w, i32_w]; rw [c71b0]) | skip)
        replace H := Option.bind_eq_some_iff.mp H
        obtain ⟨tCi, A720, H⟩ := H
        replace H : (if tCi = true then (laws_FnExactDropJump.j1 kj11 a1 tBR (tC6 != tBR) a0_0 a0_1 a0_2 l0_3 tBL tBM tBN tBO tC0 tC1 tC2 tC3) else (laws_FnExactDropJump.j1 kj11 a1 tBR true a0_0 a0_1 a0_2 l0_3 tBL tBM tBN tBO tC0 tC1 tC2 tC3)) = some r := H
        have A72 := Aside0.mk A720
        clear A720
        by_cases c73 : tCi = true
        ·subst c73
         have H1 : (laws_FnExactDropJump.j1 kj11 a1 tBR (tC6 != tBR) a0_0 a0_1 a0_2 l0_3 tBL tBM tBN tBO tC0 tC1 tC2 tC3) = some r := by rw [if_pos rfl] at H; exact H
         clear H
         have H := H1
         clear H1
         have H' := Aside0.mk H
         clear H
         have hnb74 := NBC7_BD.out
         have hnc74 := NBBD_C7.out
         have hnb75 := NBC7_BS.out
         have hnc75 := NBBS_C7.out
         have hnb76 := NBC7_BZ.out
         have hnc76 := NBBZ_C7.out
         obtain ⟨hcz77_0, hcz77_1, hcz77_2, hcz77_3, hfz77_0, hfz77_1, hfz77_2, hfz77_3⟩ := blk4 BKC7.out
         have hnb78 := NBBS_BD.out
         have hnc78 := NBBD_BS.out
         have hnb79 := NBBS_BZ.out
         have hnc79 := NBBZ_BS.out
         obtain ⟨hcz80_0, hcz80_1, hcz80_2, hcz80_3, hfz80_0, hfz80_1, hfz80_2, hfz80_3⟩ := blk4 BKBS.out
         go_wp2_with (first | (go_at_call 42; (with_reducible refine (laws_eqBoard.calls kj11 tC0 tC1 tC2 _ _ tC3 tBL tBM tBN _ _ tBO true _ ?side1 ?side2 ?side3 ?side4 A72.out).mono ?_); (case side1 => exact Kd.C_up (Kd.R_reads' HO_C8003.out).2.2); (case side2 => exact (Kd.R_reads' HO_C8003.out).2.1); (case side3 => exact Kd.C_up (Kd.R_reads' HO_BT003.out).2.2); (case side4 => exact (Kd.R_reads' HO_BT003.out).2.1); rintro e w81 ⟨rfl, hb⟩; have n0_ := Aside0.mk (Kd.R_below (Kd.R_up HO_BT003.out) hb); have n1_ := Aside0.mk (Kd.R_below (Kd.R_up HO_C0003.out) hb); have n2_ := Aside0.mk (Kd.R_below (Kd.R_up HO_C8003.out) hb); have n3_ := Aside0.mk (Kd.R_below (Kd.R_up HOCe.out) hb); have n4_ := Aside0.mk (blk_below (blk_up BKBD.out) hb); have n5_ := Aside0.mk (blk_below (blk_up BKBS.out) hb); have n6_ := Aside0.mk (blk_below (blk_up BKBZ.out) hb); have n7_ := Aside0.mk (blk_below (blk_up BKC7.out) hb); have n8_ := Aside0.mk (below_step belS hb); clear HO_BT003; clear HO_C0003; clear HO_C8003; clear HOCe; clear BKBD; clear BKBS; clear BKBZ; clear BKC7; clear HB; have HO_BT003 := n0_; have HO_C0003 := n1_; have HO_C8003 := n2_; have HOCe := n3_; have BKBD := n4_; have BKBS := n5_; have BKBZ := n6_; have BKC7 := n7_; have HB := n8_; clear n0_ n1_ n2_ n3_ n4_ n5_ n6_ n7_ n8_; (try clear hb); (try clear hb2); (try clear hk); (try clear hi)))
         go_meet
         case rel => exact ⟨_, ((tC6 != tBR)), (by first | rfl | (simp; done) | (simp [*]; done)), H', ⟨by have := HJ11.out; first | omega | exact Nat.le_refl _⟩, ⟨by (with_reducible repeat (first | apply Kd.R_alloc | apply Kd.R_drewN | apply Kd.R_drew)); exact Kd.R_mono HO_BT003.out (fun _ hk => ⟨hk.1, hk.2.1⟩)⟩, ⟨by (with_reducible repeat (first | apply Kd.R_alloc | apply Kd.R_drewN | apply Kd.R_drew)); exact Kd.R_mono HO_C0003.out (fun _ hk => ⟨hk.1.1, hk.1.2⟩)⟩, ⟨by (with_reducible repeat (first | apply Kd.R_alloc | apply Kd.R_drewN | apply Kd.R_drew)); exact Kd.R_mono HO_C8003.out (fun _ hk => ⟨hk.1, hk.2.1⟩)⟩, ⟨by (with_reducible repeat (first | refine blk_drewN ?_ _ | refine blk_drew ?_ | refine blk_alloc ?_ _)); exact BKBD.out⟩, ⟨by (with_reducible repeat (first | refine blk_drewN ?_ _ | refine blk_drew ?_ | refine blk_alloc ?_ _)); exact BKBS.out⟩, ⟨by (with_reducible repeat (first | refine blk_drewN ?_ _ | refine blk_drew ?_ | refine blk_alloc ?_ _)); exact BKBZ.out⟩, ⟨by (with_reducible repeat (first | refine blk_drewN ?_ _ | refine blk_drew ?_ | refine blk_alloc ?_ _)); exact BKC7.out⟩, ⟨by exact belS⟩⟩
        ·replace c73 := Bool.eq_false_iff.mpr c73
         subst c73
         have H1 : (laws_FnExactDropJump.j1 kj11 a1 tBR true a0_0 a0_1 a0_2 l0_3 tBL tBM tBN tBO tC0 tC1 tC2 tC3) = some r := by rw [if_neg (show ¬ (false = true) by decide)] at H; exact H
         clear H
         have H := H1
         clear H1
         have H' := Aside0.mk H
         clear H
         have hnb82 := NBC7_BD.out
         have hnc82 := NBBD_C7.out
         have hnb83 := NBC7_BS.out
         have hnc83 := NBBS_C7.out
         have hnb84 := NBC7_BZ.out
         have hnc84 := NBBZ_C7.out
         obtain ⟨hcz85_0, hcz85_1, hcz85_2, hcz85_3, hfz85_0, hfz85_1, hfz85_2, hfz85_3⟩ := blk4 BKC7.out
         have hnb86 := NBBS_BD.out
         have hnc86 := NBBD_BS.out
         have hnb87 := NBBS_BZ.out
         have hnc87 := NBBZ_BS.out
         obtain ⟨hcz88_0, hcz88_1, hcz88_2, hcz88_3, hfz88_0, hfz88_1, hfz88_2, hfz88_3⟩ := blk4 BKBS.out
         go_wp2_with (first | (go_at_call 42; (with_reducible refine (laws_eqBoard.calls kj11 tC0 tC1 tC2 _ _ tC3 tBL tBM tBN _ _ tBO false _ ?side1 ?side2 ?side3 ?side4 A72.out).mono ?_); (case side1 => exact Kd.C_up (Kd.R_reads' HO_C8003.out).2.2); (case side2 => exact (Kd.R_reads' HO_C8003.out).2.1); (case side3 => exact Kd.C_up (Kd.R_reads' HO_BT003.out).2.2); (case side4 => exact (Kd.R_reads' HO_BT003.out).2.1); rintro e w89 ⟨rfl, hb⟩; have n0_ := Aside0.mk (Kd.R_below (Kd.R_up HO_BT003.out) hb); have n1_ := Aside0.mk (Kd.R_below (Kd.R_up HO_C0003.out) hb); have n2_ := Aside0.mk (Kd.R_below (Kd.R_up HO_C8003.out) hb); have n3_ := Aside0.mk (Kd.R_below (Kd.R_up HOCe.out) hb); have n4_ := Aside0.mk (blk_below (blk_up BKBD.out) hb); have n5_ := Aside0.mk (blk_below (blk_up BKBS.out) hb); have n6_ := Aside0.mk (blk_below (blk_up BKBZ.out) hb); have n7_ := Aside0.mk (blk_below (blk_up BKC7.out) hb); have n8_ := Aside0.mk (below_step belS hb); clear HO_BT003; clear HO_C0003; clear HO_C8003; clear HOCe; clear BKBD; clear BKBS; clear BKBZ; clear BKC7; clear HB; have HO_BT003 := n0_; have HO_C0003 := n1_; have HO_C8003 := n2_; have HOCe := n3_; have BKBD := n4_; have BKBS := n5_; have BKBZ := n6_; have BKC7 := n7_; have HB := n8_; clear n0_ n1_ n2_ n3_ n4_ n5_ n6_ n7_ n8_; (try clear hb); (try clear hb2); (try clear hk); (try clear hi)))
         go_meet
         case rel => exact ⟨_, (true), (by first | rfl | (simp; done) | (simp [*]; done)), H', ⟨by have := HJ11.out; first | omega | exact Nat.le_refl _⟩, ⟨by (with_reducible repeat (first | apply Kd.R_alloc | apply Kd.R_drewN | apply Kd.R_drew)); exact Kd.R_mono HO_BT003.out (fun _ hk => ⟨hk.1, hk.2.1⟩)⟩, ⟨by (with_reducible repeat (first | apply Kd.R_alloc | apply Kd.R_drewN | apply Kd.R_drew)); exact Kd.R_mono HO_C0003.out (fun _ hk => ⟨hk.1.1, hk.1.2⟩)⟩, ⟨by (with_reducible repeat (first | apply Kd.R_alloc | apply Kd.R_drewN | apply Kd.R_drew)); exact Kd.R_mono HO_C8003.out (fun _ hk => ⟨hk.1, hk.2.1⟩)⟩, ⟨by (with_reducible repeat (first | refine blk_drewN ?_ _ | refine blk_drew ?_ | refine blk_alloc ?_ _)); exact BKBD.out⟩, ⟨by (with_reducible repeat (first | refine blk_drewN ?_ _ | refine blk_drew ?_ | refine blk_alloc ?_ _)); exact BKBS.out⟩, ⟨by (with_reducible repeat (first | refine blk_drewN ?_ _ | refine blk_drew ?_ | refine blk_alloc ?_ _)); exact BKBZ.out⟩, ⟨by (with_reducible repeat (first | refine blk_drewN ?_ _ | refine blk_drew ?_ | refine blk_alloc ?_ _)); exact BKC7.out⟩, ⟨by exact belS⟩⟩
      case rest =>
       clear HC61
       try clear c1
       try clear c2
       try clear p2
       try clear c3
       try clear c4
       try clear c4b0
       try clear c5
       try clear c6
       try clear c7
       try clear c8
       try clear c11
       try clear c21
       try clear c27
       try clear c28
       try clear c31
       try clear c33
       try clear c34
       try clear c35
       try clear c37
       try clear c39
       try clear c40
       try clear c41
       try clear c42
       try clear c44
       try clear c45
       try clear c47
       try clear c48
       try clear c49
       try clear c50
       try clear c52
       try clear c53
       try clear c56
       try clear c59
       try clear c66
       try clear c67
       try clear c68
       try clear c71
       try clear c71b0
       try clear c73
       try clear c74
       try clear c75
       try clear c76
       try clear c78
       try clear c79
       try clear c82
       try clear c83
       try clear c84
       try clear c86
       try clear c87
       try clear hcz14_0 hcz14_1 hcz14_2 hcz14_3
       try clear hcz16_0 hcz16_1 hcz16_2 hcz16_3
       try clear hcz22_0 hcz22_1 hcz22_2 hcz22_3
       try clear hcz24_0 hcz24_1 hcz24_2 hcz24_3
       try clear hcz29_0 hcz29_1 hcz29_2 hcz29_3
       try clear hcz36_0 hcz36_1 hcz36_2 hcz36_3
       try clear hcz43_0 hcz43_1 hcz43_2 hcz43_3
       try clear hcz46_0 hcz46_1 hcz46_2 hcz46_3
       try clear hcz51_0 hcz51_1 hcz51_2 hcz51_3
       try clear hcz54_0 hcz54_1 hcz54_2 hcz54_3
       try clear hcz69_0 hcz69_1 hcz69_2 hcz69_3
       try clear hcz6_0 hcz6_1 hcz6_2 hcz6_3
       try clear hcz77_0 hcz77_1 hcz77_2 hcz77_3
       try clear hcz80_0 hcz80_1 hcz80_2 hcz80_3
       try clear hcz85_0 hcz85_1 hcz85_2 hcz85_3
       try clear hcz88_0 hcz88_1 hcz88_2 hcz88_3
       try clear hfz14_0 hfz14_1 hfz14_2 hfz14_3
       try clear hfz16_0 hfz16_1 hfz16_2 hfz16_3
       try clear hfz22_0 hfz22_1 hfz22_2 hfz22_3
       try clear hfz24_0 hfz24_1 hfz24_2 hfz24_3
       try clear hfz29_0 hfz29_1 hfz29_2 hfz29_3
       try clear hfz36_0 hfz36_1 hfz36_2 hfz36_3
       try clear hfz43_0 hfz43_1 hfz43_2 hfz43_3
       try clear hfz46_0 hfz46_1 hfz46_2 hfz46_3
       try clear hfz51_0 hfz51_1 hfz51_2 hfz51_3
       try clear hfz54_0 hfz54_1 hfz54_2 hfz54_3
       try clear hfz69_0 hfz69_1 hfz69_2 hfz69_3
       try clear hfz6_0 hfz6_1 hfz6_2 hfz6_3
       try clear hfz77_0 hfz77_1 hfz77_2 hfz77_3
       try clear hfz80_0 hfz80_1 hfz80_2 hfz80_3
       try clear hfz85_0 hfz85_1 hfz85_2 hfz85_3
       try clear hfz88_0 hfz88_1 hfz88_2 hfz88_3
       try clear p2
       obtain ⟨kq, x65_60, rfl, HA, HJ60, HO_BT003, HO_C0003, HO_C8003, BKBD, BKBS, BKBZ, BKC7, HB⟩ := hcut
       have hlC0003_60 := (Kd.R_reads' HO_C0003.out).1
       rw [hlC0003_60] at HO_C0003
       (try simp only [hlC0003_60])
       (try simp only [hlC0003_60] at BKBD)
       (try simp only [hlC0003_60] at BKBS)
       (try simp only [hlC0003_60] at BKBZ)
       (try simp only [hlC0003_60] at BKC7)
       (try simp only [hlC0003_60] at HO_BT003)
       (try simp only [hlC0003_60] at HO_C8003)
       cases kq with
       | zero => exact absurd HA.out (by simp [laws_FnExactDropJump.j1])
       | succ kj60 =>
        have H := HA.out
        clear HA
        simp only [laws_FnExactDropJump.j1] at H
        by_cases c90 : x65_60 = true
        ·subst c90
         have H1 : (some false) = some r := by rw [if_pos rfl] at H; exact H
         clear H
         have H := H1
         clear H1
         obtain rfl := Option.some.inj H
         go_wp2
         go_ret
         exact ⟨by first | rfl | (simp [errW_none, errW_some] <;> rfl) | (simp [*, errW_none, errW_some] <;> rfl), by exact belS⟩
        ·replace c90 := Bool.eq_false_iff.mpr c90
         subst c90
         have H1 : ((laws_markBoard.f kj60 tC0 tC1 tC2 tC3 1).bind fun btCj => ((laws_heldBoard.f kj60 tC0 tC1 tC2 btCj.2 1).bind fun tCl => (if tCl < 0 then (some false) else (if tCl = btCj.1 then ((laws_toBoard.f kj60 a0_0 a0_1 a0_2 l0_3).bind fun btCm => ((impl_DropJump.f kj60 btCm.1 btCm.2.1 btCm.2.2.1 btCm.2.2.2 a1).bind fun btCs => ((laws_eqBoard.f kj60 btCs.1 btCs.2.1 btCs.2.2.1 btCs.2.2.2.1 tBL tBM tBN tBO).bind fun tCA => (if tCA = true then (laws_FnExactDropJump.j2 kj60 btCj.1 (btCs.2.2.2.2 != tBR) tC0 tC1 tC2 btCj.2) else (laws_FnExactDropJump.j2 kj60 btCj.1 true tC0 tC1 tC2 btCj.2))))) else (some false))))) = some r := by rw [if_neg (show ¬ (false = true) by decide)] at H; exact H
         clear H
         have H := H1
         clear H1
         replace H := Option.bind_eq_some_iff.mp H
         obtain ⟨⟨tCj, tCk⟩, A910, H⟩ := H
         replace H : ((laws_heldBoard.f kj60 tC0 tC1 tC2 tCk 1).bind fun tCl => (if tCl < 0 then (some false) else (if tCl = tCj then ((laws_toBoard.f kj60 a0_0 a0_1 a0_2 l0_3).bind fun btCm => ((impl_DropJump.f kj60 btCm.1 btCm.2.1 btCm.2.2.1 btCm.2.2.2 a1).bind fun btCs => ((laws_eqBoard.f kj60 btCs.1 btCs.2.1 btCs.2.2.1 btCs.2.2.2.1 tBL tBM tBN tBO).bind fun tCA => (if tCA = true then (laws_FnExactDropJump.j2 kj60 tCj (btCs.2.2.2.2 != tBR) tC0 tC1 tC2 tCk) else (laws_FnExactDropJump.j2 kj60 tCj true tC0 tC1 tC2 tCk))))) else (some false)))) = some r := H
         have A91 := Aside0.mk A910
         clear A910
         replace H := Option.bind_eq_some_iff.mp H
         obtain ⟨tCl, A920, H⟩ := H
         replace H : (if tCl < 0 then (some false) else (if tCl = tCj then ((laws_toBoard.f kj60 a0_0 a0_1 a0_2 l0_3).bind fun btCm => ((impl_DropJump.f kj60 btCm.1 btCm.2.1 btCm.2.2.1 btCm.2.2.2 a1).bind fun btCs => ((laws_eqBoard.f kj60 btCs.1 btCs.2.1 btCs.2.2.1 btCs.2.2.2.1 tBL tBM tBN tBO).bind fun tCA => (if tCA = true then (laws_FnExactDropJump.j2 kj60 tCj (btCs.2.2.2.2 != tBR) tC0 tC1 tC2 tCk) else (laws_FnExactDropJump.j2 kj60 tCj true tC0 tC1 tC2 tCk))))) else (some false))) = some r := H
         have A92 := Aside0.mk A920
         clear A920
         by_cases c93 : tCl < 0
         ·rw [if_pos c93] at H
          have c93b0 : decide (tCl < 0) = true := decide_eq_true c93
          clear c93
          obtain rfl := Option.some.inj H
          have hnb94 := NBC7_BD.out
          have hnc94 := NBBD_C7.out
          have hnb95 := NBC7_BS.out
          have hnc95 := NBBS_C7.out
          have hnb96 := NBC7_BZ.out
          have hnc96 := NBBZ_C7.out
          obtain ⟨hcz97_0, hcz97_1, hcz97_2, hcz97_3, hfz97_0, hfz97_1, hfz97_2, hfz97_3⟩ := blk4 BKC7.out
          go_wp2_with (first | ((with_reducible refine gate_callee (f := 47) rfl ?_); refine goesL_ (some 68) rfl rfl Try.func47 (by kernel_rfl) rfl #[.agg #[.int .i64 tC0, .int .i64 tC1, .int .i64 tC2, .slice Ao37 tC3.length co37], .int .i64 1] rfl argS ?_; (with_reducible refine (laws_markBoard.calls kj60 tC0 tC1 tC2 (fun k_ => some k_ = (.slice Ao37 tC3.length co37 : Value).ownBlock) (.slice Ao37 tC3.length co37) tC3 1 tCj tCk w _ ?side1 ?side2 A91.out).mono ?_); (case side1 => exact belS); (case side2 => exact Kd.R_tight rfl HO_C8003.out); rintro e w98 ⟨rfl, hy0, hb, hkp⟩; refine ⟨_, rfl, ?_⟩; have n0_ := Aside0.mk (Kd.R_mono (ok' := fun k_ => some k_ ≠ (.slice Ao30 tCh.length co30 : Value).ownBlock ∧ some k_ ≠ (.slice Ao37 tC3.length co37 : Value).ownBlock) (Kd.R_keptB (HO_BT003.out) hkp (fun k_ hk_ hs_ => (hk_.2) hs_)) (fun k_ hk_ => ⟨hk_.1.1, hk_.1.2⟩)); have n1_ := Aside0.mk (Kd.R_mono (ok' := fun k_ => some k_ ≠ (.slice Ao23 tBO.length co23 : Value).ownBlock ∧ some k_ ≠ (.slice Ao37 tC3.length co37 : Value).ownBlock) (Kd.R_keptB (HO_C0003.out) hkp (fun k_ hk_ hs_ => (hk_.2) hs_)) (fun k_ hk_ => ⟨hk_.1.1, hk_.1.2⟩)); have n2_ := Aside0.mk (Kd.R_reok rfl hy0 (fun k_ e_ => HO_C8003.out.1 k_ e_)); have n3_ := Aside0.mk (blk_kept (blk_up BKBD.out) hkp (fun hs_ => (fun e_ => (Kd.R_ne HO_C8003.out BKBD.out (by decide)) e_) hs_)); have n4_ := Aside0.mk (blk_kept (blk_up BKBS.out) hkp (fun hs_ => (fun e_ => (Kd.R_ne HO_C8003.out BKBS.out (by decide)) e_) hs_)); have n5_ := Aside0.mk (blk_kept (blk_up BKBZ.out) hkp (fun hs_ => (fun e_ => (Kd.R_ne HO_C8003.out BKBZ.out (by decide)) e_) hs_)); have n6_ := Aside0.mk (blk_kept (blk_up BKC7.out) hkp (fun hs_ => (fun e_ => (Kd.R_ne HO_C8003.out BKC7.out (by decide)) e_) hs_)); have n7_ := Aside0.mk (hb); clear HO_BT003; clear HO_C0003; clear HO_C8003; clear BKBD; clear BKBS; clear BKBZ; clear BKC7; clear HB; have HO_BT003 := n0_; have HO_C0003 := n1_; have HO_C8003 := n2_; have BKBD := n3_; have BKBS := n4_; have BKBZ := n5_; have BKC7 := n6_; have HB := n7_; clear n0_ n1_ n2_ n3_ n4_ n5_ n6_ n7_; (try clear hb); (try clear hkp); (try clear hy0); obtain ⟨hcz99_0, hcz99_1, hcz99_2, hcz99_3, hfz99_0, hfz99_1, hfz99_2, hfz99_3⟩ := blk4 BKC7.out) | ((with_reducible refine gate_callee (f := 48) rfl ?_); refine goesL_ (some 71) rfl rfl Try.func48 (by kernel_rfl) rfl #[.agg #[.int .i64 tC0, .int .i64 tC1, .int .i64 tC2, .slice Ao37 tCk.length co37], .int .i64 1] rfl (by (try simp only [List.map_toArray, List.map_cons, List.map_nil]); first | done | (rw [show tCk.length = tC3.length from (Kd.R_reads' HO_C8003.out).1.symm] <;> rfl) | rfl | (simp only [List.length_drop, List.length_take]; rfl)) ?_; (with_reducible refine (laws_heldBoard.calls kj60 tC0 tC1 tC2 _ _ tCk 1 tCl _ ?side1 ?side2 A92.out).mono ?_); (case side1 => exact Kd.C_up (Kd.R_reads' HO_C8003.out).2.2); (case side2 => rw [show tCk.length = tC3.length from (Kd.R_reads' HO_C8003.out).1.symm]; exact (Kd.R_reads' HO_C8003.out).2.1); rintro e w100 ⟨rfl, hb⟩; refine ⟨_, rfl, ?_⟩; have n0_ := Aside0.mk (Kd.R_below (Kd.R_up HO_BT003.out) hb); have n1_ := Aside0.mk (Kd.R_below (Kd.R_up HO_C0003.out) hb); have n2_ := Aside0.mk (Kd.R_below (Kd.R_up HO_C8003.out) hb); have n3_ := Aside0.mk (blk_below (blk_up BKBD.out) hb); have n4_ := Aside0.mk (blk_below (blk_up BKBS.out) hb); have n5_ := Aside0.mk (blk_below (blk_up BKBZ.out) hb); have n6_ := Aside0.mk (blk_below (blk_up BKC7.out) hb); have n7_ := Aside0.mk (below_step belS hb); clear HO_BT003; clear HO_C0003; clear HO_C8003; clear BKBD; clear BKBS; clear BKBZ; clear BKC7; clear HB; have HO_BT003 := n0_; have HO_C0003 := n1_; have HO_C8003 := n2_; have BKBD := n3_; have BKBS := n4_; have BKBZ := n5_; have BKC7 := n6_; have HB := n7_; clear n0_ n1_ n2_ n3_ n4_ n5_ n6_ n7_; (try clear hb); (try clear hb2); (try clear hk); (try clear hi)))
          go_ret
          exact ⟨by first | rfl | (simp [errW_none, errW_some] <;> rfl) | (simp [*, errW_none, errW_some] <;> rfl), by exact belS⟩
         ·rw [if_neg c93] at H
          have c93b0 : decide (tCl < 0) = false := decide_eq_false c93
          clear c93
          by_cases c101 : tCl = tCj
          ·rw [if_pos c101] at H
           have c101b0 : (tCl == tCj) = true := beq_iff_eq.mpr c101
           have c101b1 : (tCl != tCj) = false := bne_eq_false_iff_eq.mpr c101
           clear c101
           replace H := Option.bind_eq_some_iff.mp H
           obtain ⟨⟨tCm, tCn, tCo, tCp⟩, A1020, H⟩ := H
           replace H : ((impl_DropJump.f kj60 tCm tCn tCo tCp a1).bind fun btCs => ((laws_eqBoard.f kj60 btCs.1 btCs.2.1 btCs.2.2.1 btCs.2.2.2.1 tBL tBM tBN tBO).bind fun tCA => (if tCA = true then (laws_FnExactDropJump.j2 kj60 tCj (btCs.2.2.2.2 != tBR) tC0 tC1 tC2 tCk) else (laws_FnExactDropJump.j2 kj60 tCj true tC0 tC1 tC2 tCk)))) = some r := H
           have A102 := Aside0.mk A1020
           clear A1020
           replace H := Option.bind_eq_some_iff.mp H
           obtain ⟨⟨tCs, tCt, tCu, tCv, tCy⟩, A1030, H⟩ := H
           replace H : ((laws_eqBoard.f kj60 tCs tCt tCu tCv tBL tBM tBN tBO).bind fun tCA => (if tCA = true then (laws_FnExactDropJump.j2 kj60 tCj (tCy != tBR) tC0 tC1 tC2 tCk) else (laws_FnExactDropJump.j2 kj60 tCj true tC0 tC1 tC2 tCk))) = some r := H
           have A103 := Aside0.mk A1030
           clear A1030
           have HC104 := Aside0.mk H
           clear H
           have hnb105 := NBC7_BD.out
           have hnc105 := NBBD_C7.out
           have hnb106 := NBC7_BS.out
           have hnc106 := NBBS_C7.out
           have hnb107 := NBC7_BZ.out
           have hnc107 := NBBZ_C7.out
           obtain ⟨hcz108_0, hcz108_1, hcz108_2, hcz108_3, hfz108_0, hfz108_1, hfz108_2, hfz108_3⟩ := blk4 BKC7.out
           go_upto_region 25 with (first | ((with_reducible refine gate_callee (f := 47) rfl ?_); refine goesL_ (some 68) rfl rfl Try.func47 (by kernel_rfl) rfl #[.agg #[.int .i64 tC0, .int .i64 tC1, .int .i64 tC2, .slice Ao37 tC3.length co37], .int .i64 1] rfl argS ?_; (with_reducible refine (laws_markBoard.calls kj60 tC0 tC1 tC2 (fun k_ => some k_ = (.slice Ao37 tC3.length co37 : Value).ownBlock) (.slice Ao37 tC3.length co37) tC3 1 tCj tCk w _ ?side1 ?side2 A91.out).mono ?_); (case side1 => exact belS); (case side2 => exact Kd.R_tight rfl HO_C8003.out); rintro e w109 ⟨rfl, hy0, hb, hkp⟩; refine ⟨_, rfl, ?_⟩; have n0_ := Aside0.mk (Kd.R_mono (ok' := fun k_ => some k_ ≠ (.slice Ao30 tCh.length co30 : Value).ownBlock ∧ some k_ ≠ (.slice Ao37 tC3.length co37 : Value).ownBlock) (Kd.R_keptB (HO_BT003.out) hkp (fun k_ hk_ hs_ => (hk_.2) hs_)) (fun k_ hk_ => ⟨hk_.1.1, hk_.1.2⟩)); have n1_ := Aside0.mk (Kd.R_mono (ok' := fun k_ => some k_ ≠ (.slice Ao23 tBO.length co23 : Value).ownBlock ∧ some k_ ≠ (.slice Ao37 tC3.length co37 : Value).ownBlock) (Kd.R_keptB (HO_C0003.out) hkp (fun k_ hk_ hs_ => (hk_.2) hs_)) (fun k_ hk_ => ⟨hk_.1.1, hk_.1.2⟩)); have n2_ := Aside0.mk (Kd.R_reok rfl hy0 (fun k_ e_ => HO_C8003.out.1 k_ e_)); have n3_ := Aside0.mk (blk_kept (blk_up BKBD.out) hkp (fun hs_ => (fun e_ => (Kd.R_ne HO_C8003.out BKBD.out (by decide)) e_) hs_)); have n4_ := Aside0.mk (blk_kept (blk_up BKBS.out) hkp (fun hs_ => (fun e_ => (Kd.R_ne HO_C8003.out BKBS.out (by decide)) e_) hs_)); have n5_ := Aside0.mk (blk_kept (blk_up BKBZ.out) hkp (fun hs_ => (fun e_ => (Kd.R_ne HO_C8003.out BKBZ.out (by decide)) e_) hs_)); have n6_ := Aside0.mk (blk_kept (blk_up BKC7.out) hkp (fun hs_ => (fun e_ => (Kd.R_ne HO_C8003.out BKC7.out (by decide)) e_) hs_)); have n7_ := Aside0.mk (hb); clear HO_BT003; clear HO_C0003; clear HO_C8003; clear BKBD; clear BKBS; clear BKBZ; clear BKC7; clear HB; have HO_BT003 := n0_; have HO_C0003 := n1_; have HO_C8003 := n2_; have BKBD := n3_; have BKBS := n4_; have BKBZ := n5_; have BKC7 := n6_; have HB := n7_; clear n0_ n1_ n2_ n3_ n4_ n5_ n6_ n7_; (try clear hb); (try clear hkp); (try clear hy0); obtain ⟨hcz110_0, hcz110_1, hcz110_2, hcz110_3, hfz110_0, hfz110_1, hfz110_2, hfz110_3⟩ := blk4 BKC7.out) | ((with_reducible refine gate_callee (f := 48) rfl ?_); refine goesL_ (some 71) rfl rfl Try.func48 (by kernel_rfl) rfl #[.agg #[.int .i64 tC0, .int .i64 tC1, .int .i64 tC2, .slice Ao37 tCk.length co37], .int .i64 1] rfl (by (try simp only [List.map_toArray, List.map_cons, List.map_nil]); first | done | (rw [show tCk.length = tC3.length from (Kd.R_reads' HO_C8003.out).1.symm] <;> rfl) | rfl | (simp only [List.length_drop, List.length_take]; rfl)) ?_; (with_reducible refine (laws_heldBoard.calls kj60 tC0 tC1 tC2 _ _ tCk 1 tCl _ ?side1 ?side2 A92.out).mono ?_); (case side1 => exact Kd.C_up (Kd.R_reads' HO_C8003.out).2.2); (case side2 => rw [show tCk.length = tC3.length from (Kd.R_reads' HO_C8003.out).1.symm]; exact (Kd.R_reads' HO_C8003.out).2.1); rintro e w111 ⟨rfl, hb⟩; refine ⟨_, rfl, ?_⟩; have n0_ := Aside0.mk (Kd.R_below (Kd.R_up HO_BT003.out) hb); have n1_ := Aside0.mk (Kd.R_below (Kd.R_up HO_C0003.out) hb); have n2_ := Aside0.mk (Kd.R_below (Kd.R_up HO_C8003.out) hb); have n3_ := Aside0.mk (blk_below (blk_up BKBD.out) hb); have n4_ := Aside0.mk (blk_below (blk_up BKBS.out) hb); have n5_ := Aside0.mk (blk_below (blk_up BKBZ.out) hb); have n6_ := Aside0.mk (blk_below (blk_up BKC7.out) hb); have n7_ := Aside0.mk (below_step belS hb); clear HO_BT003; clear HO_C0003; clear HO_C8003; clear BKBD; clear BKBS; clear BKBZ; clear BKC7; clear HB; have HO_BT003 := n0_; have HO_C0003 := n1_; have HO_C8003 := n2_; have BKBD := n3_; have BKBS := n4_; have BKBZ := n5_; have BKC7 := n6_; have HB := n7_; clear n0_ n1_ n2_ n3_ n4_ n5_ n6_ n7_; (try clear hb); (try clear hb2); (try clear hk); (try clear hi); have hnb112 := NBBD_BS.out; have hnc112 := NBBS_BD.out; have hnb113 := NBBD_BZ.out; have hnc113 := NBBZ_BD.out; obtain ⟨hcz114_0, hcz114_1, hcz114_2, hcz114_3, hfz114_0, hfz114_1, hfz114_2, hfz114_3⟩ := blk4 BKBD.out) | ((with_reducible refine gate_callee (f := 39) rfl ?_); refine goesL_ (some 79) rfl rfl Try.func39 (by kernel_rfl) rfl #[.agg #[.int .i64 a0_0, .int .i64 a0_1, .int .i64 a0_2, .slice A0_3 l0_3.length c0_3]] rfl argS ?_; (with_reducible refine (laws_toBoard.calls kj60 a0_0 a0_1 a0_2 _ _ l0_3 tCm tCn tCo tCp _ ?side1 ?side2 A102.out).mono ?_); (case side1 => exact Kd.C_up (Kd.C_below HR0_3.out HB.out)); (case side2 => exact HC0_3.out); rintro e w115 ⟨vCq, rfl, ho0, hb⟩; refine ⟨_, rfl, ?_⟩; have n0_ := Aside0.mk (Kd.R_elder' (Kd.R_up HO_BT003.out) (Kd.R_base ho0) hb); have n1_ := Aside0.mk (Kd.R_elder' (Kd.R_up HO_C0003.out) (Kd.R_base ho0) hb); have n2_ := Aside0.mk (Kd.R_elder' (Kd.R_up HO_C8003.out) (Kd.R_base ho0) hb); have n3_ := Aside0.mk (Kd.R_lower (Kd.R_new' (Kd.R_new' (Kd.R_new' ho0 (Kd.R_lt (Kd.R_up HO_BT003.out))) (Kd.R_lt (Kd.R_up HO_C0003.out))) (Kd.R_lt (Kd.R_up HO_C8003.out))) (below_size belS)); have n4_ := Aside0.mk (blk_below (blk_up BKBD.out) hb); have n5_ := Aside0.mk (blk_below (blk_up BKBS.out) hb); have n6_ := Aside0.mk (blk_below (blk_up BKBZ.out) hb); have n7_ := Aside0.mk (blk_below (blk_up BKC7.out) hb); have n8_ := Aside0.mk (below_step belS hb); clear HO_BT003; clear HO_C0003; clear HO_C8003; clear BKBD; clear BKBS; clear BKBZ; clear BKC7; clear HB; have HO_BT003 := n0_; have HO_C0003 := n1_; have HO_C8003 := n2_; have HOCr := n3_; have BKBD := n4_; have BKBS := n5_; have BKBZ := n6_; have BKC7 := n7_; have HB := n8_; clear n0_ n1_ n2_ n3_ n4_ n5_ n6_ n7_ n8_; (try clear hb); (try clear hb2); (try clear hk); (try clear hi); (try clear ho0); obtain ⟨Ao116, co116, eo116⟩ := Kd.R_slice HOCr.out; subst eo116) | ((with_reducible refine gate_callee (f := 113) rfl ?_); refine goesL_ (some 81) rfl rfl Try.func113 (by kernel_rfl) rfl #[.agg #[.int .i64 tCm, .int .i64 tCn, .int .i64 tCo, .slice Ao116 tCp.length co116], .int .i64 a1] rfl argS ?_; (with_reducible refine (impl_DropJump.calls kj60 tCm tCn tCo _ _ tCp a1 tCs tCt tCu tCv tCy _ ?side1 ?side2 A103.out).mono ?_); (case side1 => exact Kd.C_up (Kd.R_reads' HOCr.out).2.2); (case side2 => exact (Kd.R_reads' HOCr.out).2.1); rintro e w117 ⟨vCw, rfl, ho0, hb⟩; refine ⟨_, rfl, ?_⟩; have n0_ := Aside0.mk (Kd.R_elder' (Kd.R_up HO_BT003.out) (Kd.R_base ho0) hb); have n1_ := Aside0.mk (Kd.R_elder' (Kd.R_up HO_C0003.out) (Kd.R_base ho0) hb); have n2_ := Aside0.mk (Kd.R_elder' (Kd.R_up HO_C8003.out) (Kd.R_base ho0) hb); have n3_ := Aside0.mk (Kd.R_elder' (Kd.R_up HOCr.out) (Kd.R_base ho0) hb); have n4_ := Aside0.mk (Kd.R_lower (Kd.R_new' (Kd.R_new' (Kd.R_new' (Kd.R_new' ho0 (Kd.R_lt (Kd.R_up HO_BT003.out))) (Kd.R_lt (Kd.R_up HO_C0003.out))) (Kd.R_lt (Kd.R_up HO_C8003.out))) (Kd.R_lt (Kd.R_up HOCr.out))) (below_size belS)); have n5_ := Aside0.mk (blk_below (blk_up BKBD.out) hb); have n6_ := Aside0.mk (blk_below (blk_up BKBS.out) hb); have n7_ := Aside0.mk (blk_below (blk_up BKBZ.out) hb); have n8_ := Aside0.mk (blk_below (blk_up BKC7.out) hb); have n9_ := Aside0.mk (below_step belS hb); clear HO_BT003; clear HO_C0003; clear HO_C8003; clear HOCr; clear BKBD; clear BKBS; clear BKBZ; clear BKC7; clear HB; have HO_BT003 := n0_; have HO_C0003 := n1_; have HO_C8003 := n2_; have HOCr := n3_; have HOCx := n4_; have BKBD := n5_; have BKBS := n6_; have BKBZ := n7_; have BKC7 := n8_; have HB := n9_; clear n0_ n1_ n2_ n3_ n4_ n5_ n6_ n7_ n8_ n9_; (try clear hb); (try clear hb2); (try clear hk); (try clear hi); (try clear ho0)) | ((with_reducible refine gate_dst (N := 14) rfl ?_); refine box_event ?hg (N := 14) ?hd (cs := #[.int .i64 0, .int .i64 0, .int .i64 0, .slice none 0 0]) (t := 32) ?hr ?_; (case hd => rfl); (case hg => rfl); (case hr => first | (go_simp; done) | (go_simp; rfl)); intro gbCz hg w118 hbox hb; have n0_ := Aside0.mk (Kd.R_below (Kd.R_up HO_BT003.out) hb); have n1_ := Aside0.mk (Kd.R_below (Kd.R_up HO_C0003.out) hb); have n2_ := Aside0.mk (Kd.R_below (Kd.R_up HO_C8003.out) hb); have n3_ := Aside0.mk (Kd.R_below (Kd.R_up HOCr.out) hb); have n4_ := Aside0.mk (Kd.R_below (Kd.R_up HOCx.out) hb); have n5_ := Aside0.mk (blk_below (blk_up BKBD.out) hb); have n6_ := Aside0.mk (blk_below (blk_up BKBS.out) hb); have n7_ := Aside0.mk (blk_below (blk_up BKBZ.out) hb); have n8_ := Aside0.mk (blk_below (blk_up BKC7.out) hb); have n9_ := Aside0.mk (below_step belS hb); have n10_ := Aside0.mk (hbox); have n11_ := Aside0.mk ((by rw [hg]; exact (below_size belS) : w.heap.size ≤ gbCz)); have n12_ := n11_; have n13_ := Aside0.mk ((by rw [hg]; exact Nat.ne_of_lt (blk_lt (blk_up BKBD.out)) : gbBD ≠ gbCz)); have n14_ := Aside0.mk ((by rw [hg]; exact Nat.ne_of_gt (blk_lt (blk_up BKBD.out)) : gbCz ≠ gbBD)); have n15_ := Aside0.mk ((by rw [hg]; exact Nat.ne_of_lt (blk_lt (blk_up BKBS.out)) : gbBS ≠ gbCz)); have n16_ := Aside0.mk ((by rw [hg]; exact Nat.ne_of_gt (blk_lt (blk_up BKBS.out)) : gbCz ≠ gbBS)); have n17_ := Aside0.mk ((by rw [hg]; exact Nat.ne_of_lt (blk_lt (blk_up BKBZ.out)) : gbBZ ≠ gbCz)); have n18_ := Aside0.mk ((by rw [hg]; exact Nat.ne_of_gt (blk_lt (blk_up BKBZ.out)) : gbCz ≠ gbBZ)); have n19_ := Aside0.mk ((by rw [hg]; exact Nat.ne_of_lt (blk_lt (blk_up BKC7.out)) : gbC7 ≠ gbCz)); have n20_ := Aside0.mk ((by rw [hg]; exact Nat.ne_of_gt (blk_lt (blk_up BKC7.out)) : gbCz ≠ gbC7)); clear HO_BT003; clear HO_C0003; clear HO_C8003; clear HOCr; clear HOCx; clear BKBD; clear BKBS; clear BKBZ; clear BKC7; clear HB; have HO_BT003 := n0_; have HO_C0003 := n1_; have HO_C8003 := n2_; have HOCr := n3_; have HOCx := n4_; have BKBD := n5_; have BKBS := n6_; have BKBZ := n7_; have BKC7 := n8_; have HB := n9_; have BKCz := n10_; have GWCz := n11_; have GECz := n12_; have NBBD_Cz := n13_; have NBCz_BD := n14_; have NBBS_Cz := n15_; have NBCz_BS := n16_; have NBBZ_Cz := n17_; have NBCz_BZ := n18_; have NBC7_Cz := n19_; have NBCz_C7 := n20_; clear n0_ n1_ n2_ n3_ n4_ n5_ n6_ n7_ n8_ n9_ n10_ n11_ n12_ n13_ n14_ n15_ n16_ n17_ n18_ n19_ n20_; clear hb hbox hg; have hnb119 := NBCz_BD.out; have hnc119 := NBBD_Cz.out; have hnb120 := NBCz_BS.out; have hnc120 := NBBS_Cz.out; have hnb121 := NBCz_BZ.out; have hnc121 := NBBZ_Cz.out; have hnb122 := NBCz_C7.out; have hnc122 := NBC7_Cz.out; obtain ⟨hcz123_0, hcz123_1, hcz123_2, hcz123_3, hfz123_0, hfz123_1, hfz123_2, hfz123_3⟩ := blk4 BKCz.out; obtain ⟨Ao124, co124, eo124⟩ := Kd.R_slice HOCx.out; subst eo124))
           (try simp only [Act.put, List.setIfInBounds_toArray, List.set_cons_zero, List.set_cons_succ])
           go_cut [92] (fun v92 wc => ∃ (kq : Nat) (x92_103 : Bool), v92 = .bool x92_103 ∧ Aside0 (laws_FnExactDropJump.j2 kq tCj x92_103 tC0 tC1 tC2 tCk = some r) ∧ Aside0 (kq ≤ kj60) ∧ Aside0 (Kd.R k27 27 wc w.heap.size (fun k_ => some k_ ≠ ((.slice Ao30 tCh.length co30) : Value).ownBlock ∧ some k_ ≠ ((.slice Ao37 tC3.length co37) : Value).ownBlock ∧ some k_ ≠ ((.slice Ao124 tCv.length co124) : Value).ownBlock) (.slice Ao23 tBO.length co23) tBO) ∧ Aside0 (Kd.R k27 27 wc w.heap.size (fun k_ => some k_ ≠ ((.slice Ao23 tBO.length co23) : Value).ownBlock ∧ some k_ ≠ ((.slice Ao37 tC3.length co37) : Value).ownBlock ∧ some k_ ≠ ((.slice Ao124 tCv.length co124) : Value).ownBlock) (.slice Ao30 tCh.length co30) tCh) ∧ Aside0 (Kd.R k27 27 wc w.heap.size (fun k_ => some k_ ≠ ((.slice Ao23 tBO.length co23) : Value).ownBlock ∧ some k_ ≠ ((.slice Ao30 tCh.length co30) : Value).ownBlock ∧ some k_ ≠ ((.slice Ao124 tCv.length co124) : Value).ownBlock) (.slice Ao37 tC3.length co37) tCk) ∧ Aside0 (Kd.R k27 27 wc w.heap.size (fun k_ => some k_ ≠ ((.slice Ao23 tBO.length co23) : Value).ownBlock ∧ some k_ ≠ ((.slice Ao30 tCh.length co30) : Value).ownBlock ∧ some k_ ≠ ((.slice Ao37 tC3.length co37) : Value).ownBlock) (.slice Ao124 tCv.length co124) tCv) ∧ Aside0 (wc.heap[gbBD]? = some (.cells #[.int .i64 a0_0, .int .i64 a0_1, .int .i64 a0_2, (.slice A0_3 l0_3.length c0_3)] 24 (0, 0))) ∧ Aside0 (wc.heap[gbBS]? = some (.cells #[.int .i64 tBL, .int .i64 tBM, .int .i64 tBN, (.slice Ao23 tBO.length co23)] 32 (0, 0))) ∧ Aside0 (wc.heap[gbBZ]? = some (.cells #[.int .i64 tBT, .int .i64 tBU, .int .i64 tBV, (.slice Ao30 tCh.length co30)] 32 (0, 0))) ∧ Aside0 (wc.heap[gbC7]? = some (.cells #[.int .i64 tC0, .int .i64 tC1, .int .i64 tC2, (.slice Ao37 tC3.length co37)] 32 (0, 0))) ∧ Aside0 (wc.heap[gbCz]? = some (.cells #[.int .i64 tCs, .int .i64 tCt, .int .i64 tCu, (.slice Ao124 tCv.length co124)] 32 (0, 0))) ∧ Aside0 (Below w.heap.size w wc))
           case first =>
            have H := HC104.out
            clear HC104
            replace H := Option.bind_eq_some_iff.mp H
            obtain ⟨tCA, A1250, H⟩ := H
            replace H : (if tCA = true then (laws_FnExactDropJump.j2 kj60 tCj (tCy != tBR) tC0 tC1 tC2 tCk) else (laws_FnExactDropJump.j2 kj60 tCj true tC0 tC1 tC2 tCk)) = some r := H
            have A125 := Aside0.mk A1250
            clear A1250
            by_cases c126 : tCA = true
            ·subst c126
             have H1 : (laws_FnExactDropJump.j2 kj60 tCj (tCy != tBR) tC0 tC1 tC2 tCk) = some r := by rw [if_pos rfl] at H; exact H
             clear H
             have H := H1
             clear H1
             have H' := Aside0.mk H
             clear H
             have hnb127 := NBCz_BD.out
             have hnc127 := NBBD_Cz.out
             have hnb128 := NBCz_BS.out
             have hnc128 := NBBS_Cz.out
             have hnb129 := NBCz_BZ.out
             have hnc129 := NBBZ_Cz.out
             have hnb130 := NBCz_C7.out
             have hnc130 := NBC7_Cz.out
             obtain ⟨hcz131_0, hcz131_1, hcz131_2, hcz131_3, hfz131_0, hfz131_1, hfz131_2, hfz131_3⟩ := blk4 BKCz.out
             have hnb132 := NBBS_BD.out
             have hnc132 := NBBD_BS.out
             have hnb133 := NBBS_BZ.out
             have hnc133 := NBBZ_BS.out
             have hnb134 := NBBS_C7.out
             have hnc134 := NBC7_BS.out
             obtain ⟨hcz135_0, hcz135_1, hcz135_2, hcz135_3, hfz135_0, hfz135_1, hfz135_2, hfz135_3⟩ := blk4 BKBS.out
             go_wp2_with (first | ((with_reducible refine gate_callee (f := 42) rfl ?_); refine goesL_ (some 86) rfl rfl Try.func42 (by kernel_rfl) rfl #[.agg #[.int .i64 tCs, .int .i64 tCt, .int .i64 tCu, .slice Ao124 tCv.length co124], .agg #[.int .i64 tBL, .int .i64 tBM, .int .i64 tBN, .slice Ao23 tBO.length co23]] rfl argS ?_; (with_reducible refine (laws_eqBoard.calls kj60 tCs tCt tCu _ _ tCv tBL tBM tBN _ _ tBO true _ ?side1 ?side2 ?side3 ?side4 A125.out).mono ?_); (case side1 => refine (Kd.R_reads' (e := 27) (base := w.heap.size) (ok := fun k_ => ((((True ∧ some k_ ≠ (.slice Ao23 tBO.length co23 : Value).ownBlock) ∧ some k_ ≠ (.slice Ao30 tCh.length co30 : Value).ownBlock) ∧ some k_ ≠ (.slice Ao37 tC3.length co37 : Value).ownBlock) ∧ some k_ ≠ (.slice Ao116 tCp.length co116 : Value).ownBlock)) (n := tCv.length) (c := co124) ?_).2.2; exact (by (with_reducible repeat (first | apply Kd.R_alloc | apply Kd.R_drewN | apply Kd.R_drew)); exact (Kd.R_mono (Kd.R_far (p := ⟨gbCz, 3, none⟩) (Kd.R_far (p := ⟨gbCz, 2, none⟩) (Kd.R_far (p := ⟨gbCz, 1, none⟩) (Kd.R_far (p := ⟨gbCz, 0, none⟩) (Kd.R_types HOCx.out BKCz.out (by decide)) (fun _ hk => hk.2) (.int .i64 tCs)) (fun _ hk => hk.2) (.int .i64 tCt)) (fun _ hk => hk.2) (.int .i64 tCu)) (fun _ hk => hk.2) (.slice Ao124 tCv.length co124)) (fun _ h_ => h_.1)))); (case side2 => exact (Kd.R_reads' HOCx.out).2.1); (case side3 => refine (Kd.R_reads' (e := 27) (base := w.heap.size) (ok := fun k_ => (((some k_ ≠ (.slice Ao30 tCh.length co30 : Value).ownBlock ∧ some k_ ≠ (.slice Ao37 tC3.length co37 : Value).ownBlock) ∧ some k_ ≠ (.slice Ao116 tCp.length co116 : Value).ownBlock) ∧ some k_ ≠ (.slice Ao124 tCv.length co124 : Value).ownBlock)) (n := tBO.length) (c := co23) ?_).2.2; exact (by (with_reducible repeat (first | apply Kd.R_alloc | apply Kd.R_drewN | apply Kd.R_drew)); exact (Kd.R_mono (Kd.R_far (p := ⟨gbCz, 3, none⟩) (Kd.R_far (p := ⟨gbCz, 2, none⟩) (Kd.R_far (p := ⟨gbCz, 1, none⟩) (Kd.R_far (p := ⟨gbCz, 0, none⟩) (Kd.R_types HO_BT003.out BKCz.out (by decide)) (fun _ hk => hk.2) (.int .i64 tCs)) (fun _ hk => hk.2) (.int .i64 tCt)) (fun _ hk => hk.2) (.int .i64 tCu)) (fun _ hk => hk.2) (.slice Ao124 tCv.length co124)) (fun _ h_ => h_.1)))); (case side4 => exact (Kd.R_reads' HO_BT003.out).2.1); rintro e w136 ⟨rfl, hb⟩; refine ⟨_, rfl, ?_⟩; have n0_ := Aside0.mk (Kd.R_below (by (with_reducible repeat (first | apply Kd.R_alloc | apply Kd.R_drewN | apply Kd.R_drew)); exact (Kd.R_mono (Kd.R_far (p := ⟨gbCz, 3, none⟩) (Kd.R_far (p := ⟨gbCz, 2, none⟩) (Kd.R_far (p := ⟨gbCz, 1, none⟩) (Kd.R_far (p := ⟨gbCz, 0, none⟩) (Kd.R_types HO_BT003.out BKCz.out (by decide)) (fun _ hk => hk.2) (.int .i64 tCs)) (fun _ hk => hk.2) (.int .i64 tCt)) (fun _ hk => hk.2) (.int .i64 tCu)) (fun _ hk => hk.2) (.slice Ao124 tCv.length co124)) (fun _ h_ => h_.1))) hb); have n1_ := Aside0.mk (Kd.R_below (by (with_reducible repeat (first | apply Kd.R_alloc | apply Kd.R_drewN | apply Kd.R_drew)); exact (Kd.R_mono (Kd.R_far (p := ⟨gbCz, 3, none⟩) (Kd.R_far (p := ⟨gbCz, 2, none⟩) (Kd.R_far (p := ⟨gbCz, 1, none⟩) (Kd.R_far (p := ⟨gbCz, 0, none⟩) (Kd.R_types HO_C0003.out BKCz.out (by decide)) (fun _ hk => hk.2) (.int .i64 tCs)) (fun _ hk => hk.2) (.int .i64 tCt)) (fun _ hk => hk.2) (.int .i64 tCu)) (fun _ hk => hk.2) (.slice Ao124 tCv.length co124)) (fun _ h_ => h_.1))) hb); have n2_ := Aside0.mk (Kd.R_below (by (with_reducible repeat (first | apply Kd.R_alloc | apply Kd.R_drewN | apply Kd.R_drew)); exact (Kd.R_mono (Kd.R_far (p := ⟨gbCz, 3, none⟩) (Kd.R_far (p := ⟨gbCz, 2, none⟩) (Kd.R_far (p := ⟨gbCz, 1, none⟩) (Kd.R_far (p := ⟨gbCz, 0, none⟩) (Kd.R_types HO_C8003.out BKCz.out (by decide)) (fun _ hk => hk.2) (.int .i64 tCs)) (fun _ hk => hk.2) (.int .i64 tCt)) (fun _ hk => hk.2) (.int .i64 tCu)) (fun _ hk => hk.2) (.slice Ao124 tCv.length co124)) (fun _ h_ => h_.1))) hb); have n3_ := Aside0.mk (Kd.R_below (by (with_reducible repeat (first | apply Kd.R_alloc | apply Kd.R_drewN | apply Kd.R_drew)); exact (Kd.R_mono (Kd.R_far (p := ⟨gbCz, 3, none⟩) (Kd.R_far (p := ⟨gbCz, 2, none⟩) (Kd.R_far (p := ⟨gbCz, 1, none⟩) (Kd.R_far (p := ⟨gbCz, 0, none⟩) (Kd.R_types HOCr.out BKCz.out (by decide)) (fun _ hk => hk.2) (.int .i64 tCs)) (fun _ hk => hk.2) (.int .i64 tCt)) (fun _ hk => hk.2) (.int .i64 tCu)) (fun _ hk => hk.2) (.slice Ao124 tCv.length co124)) (fun _ h_ => h_.1))) hb); have n4_ := Aside0.mk (Kd.R_below (by (with_reducible repeat (first | apply Kd.R_alloc | apply Kd.R_drewN | apply Kd.R_drew)); exact (Kd.R_mono (Kd.R_far (p := ⟨gbCz, 3, none⟩) (Kd.R_far (p := ⟨gbCz, 2, none⟩) (Kd.R_far (p := ⟨gbCz, 1, none⟩) (Kd.R_far (p := ⟨gbCz, 0, none⟩) (Kd.R_types HOCx.out BKCz.out (by decide)) (fun _ hk => hk.2) (.int .i64 tCs)) (fun _ hk => hk.2) (.int .i64 tCt)) (fun _ hk => hk.2) (.int .i64 tCu)) (fun _ hk => hk.2) (.slice Ao124 tCv.length co124)) (fun _ h_ => h_.1))) hb); have n5_ := Aside0.mk (blk_below (g := gbBD) (o := .cells #[.int .i64 a0_0, .int .i64 a0_1, .int .i64 a0_2, .slice A0_3 l0_3.length c0_3] 24 (0, 0)) (by (with_reducible repeat (first | refine blk_drewN ?_ _ | refine blk_drew ?_ | refine blk_alloc ?_ _)); refine blk_far ?_ NBBD_Cz.out _; (with_reducible repeat (first | refine blk_drewN ?_ _ | refine blk_drew ?_ | refine blk_alloc ?_ _)); refine blk_far ?_ NBBD_Cz.out _; (with_reducible repeat (first | refine blk_drewN ?_ _ | refine blk_drew ?_ | refine blk_alloc ?_ _)); refine blk_far ?_ NBBD_Cz.out _; (with_reducible repeat (first | refine blk_drewN ?_ _ | refine blk_drew ?_ | refine blk_alloc ?_ _)); refine blk_far ?_ NBBD_Cz.out _; (with_reducible repeat (first | refine blk_drewN ?_ _ | refine blk_drew ?_ | refine blk_alloc ?_ _)); exact BKBD.out) hb); have n6_ := Aside0.mk (blk_below (g := gbBS) (o := .cells #[.int .i64 tBL, .int .i64 tBM, .int .i64 tBN, .slice Ao23 tBO.length co23] 32 (0, 0)) (by (with_reducible repeat (first | refine blk_drewN ?_ _ | refine blk_drew ?_ | refine blk_alloc ?_ _)); refine blk_far ?_ NBBS_Cz.out _; (with_reducible repeat (first | refine blk_drewN ?_ _ | refine blk_drew ?_ | refine blk_alloc ?_ _)); refine blk_far ?_ NBBS_Cz.out _; (with_reducible repeat (first | refine blk_drewN ?_ _ | refine blk_drew ?_ | refine blk_alloc ?_ _)); refine blk_far ?_ NBBS_Cz.out _; (with_reducible repeat (first | refine blk_drewN ?_ _ | refine blk_drew ?_ | refine blk_alloc ?_ _)); refine blk_far ?_ NBBS_Cz.out _; (with_reducible repeat (first | refine blk_drewN ?_ _ | refine blk_drew ?_ | refine blk_alloc ?_ _)); exact BKBS.out) hb); have n7_ := Aside0.mk (blk_below (g := gbBZ) (o := .cells #[.int .i64 tBT, .int .i64 tBU, .int .i64 tBV, .slice Ao30 tCh.length co30] 32 (0, 0)) (by (with_reducible repeat (first | refine blk_drewN ?_ _ | refine blk_drew ?_ | refine blk_alloc ?_ _)); refine blk_far ?_ NBBZ_Cz.out _; (with_reducible repeat (first | refine blk_drewN ?_ _ | refine blk_drew ?_ | refine blk_alloc ?_ _)); refine blk_far ?_ NBBZ_Cz.out _; (with_reducible repeat (first | refine blk_drewN ?_ _ | refine blk_drew ?_ | refine blk_alloc ?_ _)); refine blk_far ?_ NBBZ_Cz.out _; (with_reducible repeat (first | refine blk_drewN ?_ _ | refine blk_drew ?_ | refine blk_alloc ?_ _)); refine blk_far ?_ NBBZ_Cz.out _; (with_reducible repeat (first | refine blk_drewN ?_ _ | refine blk_drew ?_ | refine blk_alloc ?_ _)); exact BKBZ.out) hb); have n8_ := Aside0.mk (blk_below (g := gbC7) (o := .cells #[.int .i64 tC0, .int .i64 tC1, .int .i64 tC2, .slice Ao37 tC3.length co37] 32 (0, 0)) (by (with_reducible repeat (first | refine blk_drewN ?_ _ | refine blk_drew ?_ | refine blk_alloc ?_ _)); refine blk_far ?_ NBC7_Cz.out _; (with_reducible repeat (first | refine blk_drewN ?_ _ | refine blk_drew ?_ | refine blk_alloc ?_ _)); refine blk_far ?_ NBC7_Cz.out _; (with_reducible repeat (first | refine blk_drewN ?_ _ | refine blk_drew ?_ | refine blk_alloc ?_ _)); refine blk_far ?_ NBC7_Cz.out _; (with_reducible repeat (first | refine blk_drewN ?_ _ | refine blk_drew ?_ | refine blk_alloc ?_ _)); refine blk_far ?_ NBC7_Cz.out _; (with_reducible repeat (first | refine blk_drewN ?_ _ | refine blk_drew ?_ | refine blk_alloc ?_ _)); exact BKC7.out) hb); have n9_ := Aside0.mk (blk_below (g := gbCz) (o := .cells #[.int .i64 tCs, .int .i64 tCt, .int .i64 tCu, .slice Ao124 tCv.length co124] 32 (0, 0)) (by (with_reducible repeat (first | refine blk_drewN ?_ _ | refine blk_drew ?_ | refine blk_alloc ?_ _)); refine blk_put (cs := #[.int .i64 tCs, .int .i64 tCt, .int .i64 tCu, .slice none 0 0]) ?_ 3 _ rfl; (with_reducible repeat (first | refine blk_drewN ?_ _ | refine blk_drew ?_ | refine blk_alloc ?_ _)); refine blk_put (cs := #[.int .i64 tCs, .int .i64 tCt, .int .i64 0, .slice none 0 0]) ?_ 2 _ rfl; (with_reducible repeat (first | refine blk_drewN ?_ _ | refine blk_drew ?_ | refine blk_alloc ?_ _)); refine blk_put (cs := #[.int .i64 tCs, .int .i64 0, .int .i64 0, .slice none 0 0]) ?_ 1 _ rfl; (with_reducible repeat (first | refine blk_drewN ?_ _ | refine blk_drew ?_ | refine blk_alloc ?_ _)); refine blk_put (cs := #[.int .i64 0, .int .i64 0, .int .i64 0, .slice none 0 0]) ?_ 0 _ rfl; (with_reducible repeat (first | refine blk_drewN ?_ _ | refine blk_drew ?_ | refine blk_alloc ?_ _)); exact BKCz.out) hb); have n10_ := Aside0.mk (below_step belS hb); clear HO_BT003; clear HO_C0003; clear HO_C8003; clear HOCr; clear HOCx; clear BKBD; clear BKBS; clear BKBZ; clear BKC7; clear BKCz; clear HB; have HO_BT003 := n0_; have HO_C0003 := n1_; have HO_C8003 := n2_; have HOCr := n3_; have HOCx := n4_; have BKBD := n5_; have BKBS := n6_; have BKBZ := n7_; have BKC7 := n8_; have BKCz := n9_; have HB := n10_; clear n0_ n1_ n2_ n3_ n4_ n5_ n6_ n7_ n8_ n9_ n10_; (try clear hb); (try clear hb2); (try clear hk); (try clear hi)))
             go_meet
             case rel => exact ⟨_, ((tCy != tBR)), (by first | rfl | (simp; done) | (simp [*]; done)), H', ⟨by have := HJ11.out; have := HJ60.out; first | omega | exact Nat.le_refl _⟩, ⟨by (try simp only [hlC0003_60]); (with_reducible repeat (first | apply Kd.R_alloc | apply Kd.R_drewN | apply Kd.R_drew)); exact Kd.R_mono HO_BT003.out (fun _ hk => ⟨hk.1.1.1, ⟨hk.1.1.2, hk.2⟩⟩)⟩, ⟨by (try simp only [hlC0003_60]); (with_reducible repeat (first | apply Kd.R_alloc | apply Kd.R_drewN | apply Kd.R_drew)); exact Kd.R_mono HO_C0003.out (fun _ hk => ⟨hk.1.1.1, ⟨hk.1.1.2, hk.2⟩⟩)⟩, ⟨by (try simp only [hlC0003_60]); (with_reducible repeat (first | apply Kd.R_alloc | apply Kd.R_drewN | apply Kd.R_drew)); exact Kd.R_mono HO_C8003.out (fun _ hk => ⟨hk.1.1.1, ⟨hk.1.1.2, hk.2⟩⟩)⟩, ⟨by (try simp only [hlC0003_60]); (with_reducible repeat (first | apply Kd.R_alloc | apply Kd.R_drewN | apply Kd.R_drew)); exact Kd.R_mono HOCx.out (fun _ hk => ⟨hk.1.1.1.2, ⟨hk.1.1.2, hk.1.2⟩⟩)⟩, ⟨by (try simp only [hlC0003_60]); (with_reducible repeat (first | refine blk_drewN ?_ _ | refine blk_drew ?_ | refine blk_alloc ?_ _)); exact BKBD.out⟩, ⟨by (try simp only [hlC0003_60]); (with_reducible repeat (first | refine blk_drewN ?_ _ | refine blk_drew ?_ | refine blk_alloc ?_ _)); exact BKBS.out⟩, ⟨by (try simp only [hlC0003_60]); (with_reducible repeat (first | refine blk_drewN ?_ _ | refine blk_drew ?_ | refine blk_alloc ?_ _)); exact BKBZ.out⟩, ⟨by (try simp only [hlC0003_60]); (with_reducible repeat (first | refine blk_drewN ?_ _ | refine blk_drew ?_ | refine blk_alloc ?_ _)); exact BKC7.out⟩, ⟨by (try simp only [hlC0003_60]); (with_reducible repeat (first | refine blk_drewN ?_ _ | refine blk_drew ?_ | refine blk_alloc ?_ _)); exact BKCz.out⟩, ⟨by exact belS⟩⟩
            ·replace c126 := Bool.eq_false_iff.mpr c126
             subst c126
             have H1 : (laws_FnExactDropJump.j2 kj60 tCj true tC0 tC1 tC2 tCk) = some r := by rw [if_neg (show ¬ (false = true) by decide)] at H; exact H
             clear H
             have H := H1
             clear H1
             have H' := Aside0.mk H
             clear H
             have hnb137 := NBCz_BD.out
             have hnc137 := NBBD_Cz.out
             have hnb138 := NBCz_BS.out
             have hnc138 := NBBS_Cz.out
             have hnb139 := NBCz_BZ.out
             have hnc139 := NBBZ_Cz.out
             have hnb140 := NBCz_C7.out
             have hnc140 := NBC7_Cz.out
             obtain ⟨hcz141_0, hcz141_1, hcz141_2, hcz141_3, hfz141_0, hfz141_1, hfz141_2, hfz141_3⟩ := blk4 BKCz.out
             have hnb142 := NBBS_BD.out
             have hnc142 := NBBD_BS.out
             have hnb143 := NBBS_BZ.out
             have hnc143 := NBBZ_BS.out
             have hnb144 := NBBS_C7.out
             have hnc144 := NBC7_BS.out
             obtain ⟨hcz145_0, hcz145_1, hcz145_2, hcz145_3, hfz145_0, hfz145_1, hfz145_2, hfz145_3⟩ := blk4 BKBS.out
             go_wp2_with (first | ((with_reducible refine gate_callee (f := 42) rfl ?_); refine goesL_ (some 86) rfl rfl Try.func42 (by kernel_rfl) rfl #[.agg #[.int .i64 tCs, .int .i64 tCt, .int .i64 tCu, .slice Ao124 tCv.length co124], .agg #[.int .i64 tBL, .int .i64 tBM, .int .i64 tBN, .slice Ao23 tBO.length co23]] rfl argS ?_; (with_reducible refine (laws_eqBoard.calls kj60 tCs tCt tCu _ _ tCv tBL tBM tBN _ _ tBO false _ ?side1 ?side2 ?side3 ?side4 A125.out).mono ?_); (case side1 => refine (Kd.R_reads' (e := 27) (base := w.heap.size) (ok := fun k_ => ((((True ∧ some k_ ≠ (.slice Ao23 tBO.length co23 : Value).ownBlock) ∧ some k_ ≠ (.slice Ao30 tCh.length co30 : Value).ownBlock) ∧ some k_ ≠ (.slice Ao37 tC3.length co37 : Value).ownBlock) ∧ some k_ ≠ (.slice Ao116 tCp.length co116 : Value).ownBlock)) (n := tCv.length) (c := co124) ?_).2.2; exact (by (with_reducible repeat (first | apply Kd.R_alloc | apply Kd.R_drewN | apply Kd.R_drew)); exact (Kd.R_mono (Kd.R_far (p := ⟨gbCz, 3, none⟩) (Kd.R_far (p := ⟨gbCz, 2, none⟩) (Kd.R_far (p := ⟨gbCz, 1, none⟩) (Kd.R_far (p := ⟨gbCz, 0, none⟩) (Kd.R_types HOCx.out BKCz.out (by decide)) (fun _ hk => hk.2) (.int .i64 tCs)) (fun _ hk => hk.2) (.int .i64 tCt)) (fun _ hk => hk.2) (.int .i64 tCu)) (fun _ hk => hk.2) (.slice Ao124 tCv.length co124)) (fun _ h_ => h_.1)))); (case side2 => exact (Kd.R_reads' HOCx.out).2.1); (case side3 => refine (Kd.R_reads' (e := 27) (base := w.heap.size) (ok := fun k_ => (((some k_ ≠ (.slice Ao30 tCh.length co30 : Value).ownBlock ∧ some k_ ≠ (.slice Ao37 tC3.length co37 : Value).ownBlock) ∧ some k_ ≠ (.slice Ao116 tCp.length co116 : Value).ownBlock) ∧ some k_ ≠ (.slice Ao124 tCv.length co124 : Value).ownBlock)) (n := tBO.length) (c := co23) ?_).2.2; exact (by (with_reducible repeat (first | apply Kd.R_alloc | apply Kd.R_drewN | apply Kd.R_drew)); exact (Kd.R_mono (Kd.R_far (p := ⟨gbCz, 3, none⟩) (Kd.R_far (p := ⟨gbCz, 2, none⟩) (Kd.R_far (p := ⟨gbCz, 1, none⟩) (Kd.R_far (p := ⟨gbCz, 0, none⟩) (Kd.R_types HO_BT003.out BKCz.out (by decide)) (fun _ hk => hk.2) (.int .i64 tCs)) (fun _ hk => hk.2) (.int .i64 tCt)) (fun _ hk => hk.2) (.int .i64 tCu)) (fun _ hk => hk.2) (.slice Ao124 tCv.length co124)) (fun _ h_ => h_.1)))); (case side4 => exact (Kd.R_reads' HO_BT003.out).2.1); rintro e w146 ⟨rfl, hb⟩; refine ⟨_, rfl, ?_⟩; have n0_ := Aside0.mk (Kd.R_below (by (with_reducible repeat (first | apply Kd.R_alloc | apply Kd.R_drewN | apply Kd.R_drew)); exact (Kd.R_mono (Kd.R_far (p := ⟨gbCz, 3, none⟩) (Kd.R_far (p := ⟨gbCz, 2, none⟩) (Kd.R_far (p := ⟨gbCz, 1, none⟩) (Kd.R_far (p := ⟨gbCz, 0, none⟩) (Kd.R_types HO_BT003.out BKCz.out (by decide)) (fun _ hk => hk.2) (.int .i64 tCs)) (fun _ hk => hk.2) (.int .i64 tCt)) (fun _ hk => hk.2) (.int .i64 tCu)) (fun _ hk => hk.2) (.slice Ao124 tCv.length co124)) (fun _ h_ => h_.1))) hb); have n1_ := Aside0.mk (Kd.R_below (by (with_reducible repeat (first | apply Kd.R_alloc | apply Kd.R_drewN | apply Kd.R_drew)); exact (Kd.R_mono (Kd.R_far (p := ⟨gbCz, 3, none⟩) (Kd.R_far (p := ⟨gbCz, 2, none⟩) (Kd.R_far (p := ⟨gbCz, 1, none⟩) (Kd.R_far (p := ⟨gbCz, 0, none⟩) (Kd.R_types HO_C0003.out BKCz.out (by decide)) (fun _ hk => hk.2) (.int .i64 tCs)) (fun _ hk => hk.2) (.int .i64 tCt)) (fun _ hk => hk.2) (.int .i64 tCu)) (fun _ hk => hk.2) (.slice Ao124 tCv.length co124)) (fun _ h_ => h_.1))) hb); have n2_ := Aside0.mk (Kd.R_below (by (with_reducible repeat (first | apply Kd.R_alloc | apply Kd.R_drewN | apply Kd.R_drew)); exact (Kd.R_mono (Kd.R_far (p := ⟨gbCz, 3, none⟩) (Kd.R_far (p := ⟨gbCz, 2, none⟩) (Kd.R_far (p := ⟨gbCz, 1, none⟩) (Kd.R_far (p := ⟨gbCz, 0, none⟩) (Kd.R_types HO_C8003.out BKCz.out (by decide)) (fun _ hk => hk.2) (.int .i64 tCs)) (fun _ hk => hk.2) (.int .i64 tCt)) (fun _ hk => hk.2) (.int .i64 tCu)) (fun _ hk => hk.2) (.slice Ao124 tCv.length co124)) (fun _ h_ => h_.1))) hb); have n3_ := Aside0.mk (Kd.R_below (by (with_reducible repeat (first | apply Kd.R_alloc | apply Kd.R_drewN | apply Kd.R_drew)); exact (Kd.R_mono (Kd.R_far (p := ⟨gbCz, 3, none⟩) (Kd.R_far (p := ⟨gbCz, 2, none⟩) (Kd.R_far (p := ⟨gbCz, 1, none⟩) (Kd.R_far (p := ⟨gbCz, 0, none⟩) (Kd.R_types HOCr.out BKCz.out (by decide)) (fun _ hk => hk.2) (.int .i64 tCs)) (fun _ hk => hk.2) (.int .i64 tCt)) (fun _ hk => hk.2) (.int .i64 tCu)) (fun _ hk => hk.2) (.slice Ao124 tCv.length co124)) (fun _ h_ => h_.1))) hb); have n4_ := Aside0.mk (Kd.R_below (by (with_reducible repeat (first | apply Kd.R_alloc | apply Kd.R_drewN | apply Kd.R_drew)); exact (Kd.R_mono (Kd.R_far (p := ⟨gbCz, 3, none⟩) (Kd.R_far (p := ⟨gbCz, 2, none⟩) (Kd.R_far (p := ⟨gbCz, 1, none⟩) (Kd.R_far (p := ⟨gbCz, 0, none⟩) (Kd.R_types HOCx.out BKCz.out (by decide)) (fun _ hk => hk.2) (.int .i64 tCs)) (fun _ hk => hk.2) (.int .i64 tCt)) (fun _ hk => hk.2) (.int .i64 tCu)) (fun _ hk => hk.2) (.slice Ao124 tCv.length co124)) (fun _ h_ => h_.1))) hb); have n5_ := Aside0.mk (blk_below (g := gbBD) (o := .cells #[.int .i64 a0_0, .int .i64 a0_1, .int .i64 a0_2, .slice A0_3 l0_3.length c0_3] 24 (0, 0)) (by (with_reducible repeat (first | refine blk_drewN ?_ _ | refine blk_drew ?_ | refine blk_alloc ?_ _)); refine blk_far ?_ NBBD_Cz.out _; (with_reducible repeat (first | refine blk_drewN ?_ _ | refine blk_drew ?_ | refine blk_alloc ?_ _)); refine blk_far ?_ NBBD_Cz.out _; (with_reducible repeat (first | refine blk_drewN ?_ _ | refine blk_drew ?_ | refine blk_alloc ?_ _)); refine blk_far ?_ NBBD_Cz.out _; (with_reducible repeat (first | refine blk_drewN ?_ _ | refine blk_drew ?_ | refine blk_alloc ?_ _)); refine blk_far ?_ NBBD_Cz.out _; (with_reducible repeat (first | refine blk_drewN ?_ _ | refine blk_drew ?_ | refine blk_alloc ?_ _)); exact BKBD.out) hb); have n6_ := Aside0.mk (blk_below (g := gbBS) (o := .cells #[.int .i64 tBL, .int .i64 tBM, .int .i64 tBN, .slice Ao23 tBO.length co23] 32 (0, 0)) (by (with_reducible repeat (first | refine blk_drewN ?_ _ | refine blk_drew ?_ | refine blk_alloc ?_ _)); refine blk_far ?_ NBBS_Cz.out _; (with_reducible repeat (first | refine blk_drewN ?_ _ | refine blk_drew ?_ | refine blk_alloc ?_ _)); refine blk_far ?_ NBBS_Cz.out _; (with_reducible repeat (first | refine blk_drewN ?_ _ | refine blk_drew ?_ | refine blk_alloc ?_ _)); refine blk_far ?_ NBBS_Cz.out _; (with_reducible repeat (first | refine blk_drewN ?_ _ | refine blk_drew ?_ | refine blk_alloc ?_ _)); refine blk_far ?_ NBBS_Cz.out _; (with_reducible repeat (first | refine blk_drewN ?_ _ | refine blk_drew ?_ | refine blk_alloc ?_ _)); exact BKBS.out) hb); have n7_ := Aside0.mk (blk_below (g := gbBZ) (o := .cells #[.int .i64 tBT, .int .i64 tBU, .int .i64 tBV, .slice Ao30 tCh.length co30] 32 (0, 0)) (by (with_reducible repeat (first | refine blk_drewN ?_ _ | refine blk_drew ?_ | refine blk_alloc ?_ _)); refine blk_far ?_ NBBZ_Cz.out _; (with_reducible repeat (first | refine blk_drewN ?_ _ | refine blk_drew ?_ | refine blk_alloc ?_ _)); refine blk_far ?_ NBBZ_Cz.out _; (with_reducible repeat (first | refine blk_drewN ?_ _ | refine blk_drew ?_ | refine blk_alloc ?_ _)); refine blk_far ?_ NBBZ_Cz.out _; (with_reducible repeat (first | refine blk_drewN ?_ _ | refine blk_drew ?_ | refine blk_alloc ?_ _)); refine blk_far ?_ NBBZ_Cz.out _; (with_reducible repeat (first | refine blk_drewN ?_ _ | refine blk_drew ?_ | refine blk_alloc ?_ _)); exact BKBZ.out) hb); have n8_ := Aside0.mk (blk_below (g := gbC7) (o := .cells #[.int .i64 tC0, .int .i64 tC1, .int .i64 tC2, .slice Ao37 tC3.length co37] 32 (0, 0)) (by (with_reducible repeat (first | refine blk_drewN ?_ _ | refine blk_drew ?_ | refine blk_alloc ?_ _)); refine blk_far ?_ NBC7_Cz.out _; (with_reducible repeat (first | refine blk_drewN ?_ _ | refine blk_drew ?_ | refine blk_alloc ?_ _)); refine blk_far ?_ NBC7_Cz.out _; (with_reducible repeat (first | refine blk_drewN ?_ _ | refine blk_drew ?_ | refine blk_alloc ?_ _)); refine blk_far ?_ NBC7_Cz.out _; (with_reducible repeat (first | refine blk_drewN ?_ _ | refine blk_drew ?_ | refine blk_alloc ?_ _)); refine blk_far ?_ NBC7_Cz.out _; (with_reducible repeat (first | refine blk_drewN ?_ _ | refine blk_drew ?_ | refine blk_alloc ?_ _)); exact BKC7.out) hb); have n9_ := Aside0.mk (blk_below (g := gbCz) (o := .cells #[.int .i64 tCs, .int .i64 tCt, .int .i64 tCu, .slice Ao124 tCv.length co124] 32 (0, 0)) (by (with_reducible repeat (first | refine blk_drewN ?_ _ | refine blk_drew ?_ | refine blk_alloc ?_ _)); refine blk_put (cs := #[.int .i64 tCs, .int .i64 tCt, .int .i64 tCu, .slice none 0 0]) ?_ 3 _ rfl; (with_reducible repeat (first | refine blk_drewN ?_ _ | refine blk_drew ?_ | refine blk_alloc ?_ _)); refine blk_put (cs := #[.int .i64 tCs, .int .i64 tCt, .int .i64 0, .slice none 0 0]) ?_ 2 _ rfl; (with_reducible repeat (first | refine blk_drewN ?_ _ | refine blk_drew ?_ | refine blk_alloc ?_ _)); refine blk_put (cs := #[.int .i64 tCs, .int .i64 0, .int .i64 0, .slice none 0 0]) ?_ 1 _ rfl; (with_reducible repeat (first | refine blk_drewN ?_ _ | refine blk_drew ?_ | refine blk_alloc ?_ _)); refine blk_put (cs := #[.int .i64 0, .int .i64 0, .int .i64 0, .slice none 0 0]) ?_ 0 _ rfl; (with_reducible repeat (first | refine blk_drewN ?_ _ | refine blk_drew ?_ | refine blk_alloc ?_ _)); exact BKCz.out) hb); have n10_ := Aside0.mk (below_step belS hb); clear HO_BT003; clear HO_C0003; clear HO_C8003; clear HOCr; clear HOCx; clear BKBD; clear BKBS; clear BKBZ; clear BKC7; clear BKCz; clear HB; have HO_BT003 := n0_; have HO_C0003 := n1_; have HO_C8003 := n2_; have HOCr := n3_; have HOCx := n4_; have BKBD := n5_; have BKBS := n6_; have BKBZ := n7_; have BKC7 := n8_; have BKCz := n9_; have HB := n10_; clear n0_ n1_ n2_ n3_ n4_ n5_ n6_ n7_ n8_ n9_ n10_; (try clear hb); (try clear hb2); (try clear hk); (try clear hi)))
             go_meet
             case rel => exact ⟨_, (true), (by first | rfl | (simp; done) | (simp [*]; done)), H', ⟨by have := HJ11.out; have := HJ60.out; first | omega | exact Nat.le_refl _⟩, ⟨by (try simp only [hlC0003_60]); (with_reducible repeat (first | apply Kd.R_alloc | apply Kd.R_drewN | apply Kd.R_drew)); exact Kd.R_mono HO_BT003.out (fun _ hk => ⟨hk.1.1.1, ⟨hk.1.1.2, hk.2⟩⟩)⟩, ⟨by (try simp only [hlC0003_60]); (with_reducible repeat (first | apply Kd.R_alloc | apply Kd.R_drewN | apply Kd.R_drew)); exact Kd.R_mono HO_C0003.out (fun _ hk => ⟨hk.1.1.1, ⟨hk.1.1.2, hk.2⟩⟩)⟩, ⟨by (try simp only [hlC0003_60]); (with_reducible repeat (first | apply Kd.R_alloc | apply Kd.R_drewN | apply Kd.R_drew)); exact Kd.R_mono HO_C8003.out (fun _ hk => ⟨hk.1.1.1, ⟨hk.1.1.2, hk.2⟩⟩)⟩, ⟨by (try simp only [hlC0003_60]); (with_reducible repeat (first | apply Kd.R_alloc | apply Kd.R_drewN | apply Kd.R_drew)); exact Kd.R_mono HOCx.out (fun _ hk => ⟨hk.1.1.1.2, ⟨hk.1.1.2, hk.1.2⟩⟩)⟩, ⟨by (try simp only [hlC0003_60]); (with_reducible repeat (first | refine blk_drewN ?_ _ | refine blk_drew ?_ | refine blk_alloc ?_ _)); exact BKBD.out⟩, ⟨by (try simp only [hlC0003_60]); (with_reducible repeat (first | refine blk_drewN ?_ _ | refine blk_drew ?_ | refine blk_alloc ?_ _)); exact BKBS.out⟩, ⟨by (try simp only [hlC0003_60]); (with_reducible repeat (first | refine blk_drewN ?_ _ | refine blk_drew ?_ | refine blk_alloc ?_ _)); exact BKBZ.out⟩, ⟨by (try simp only [hlC0003_60]); (with_reducible repeat (first | refine blk_drewN ?_ _ | refine blk_drew ?_ | refine blk_alloc ?_ _)); exact BKC7.out⟩, ⟨by (try simp only [hlC0003_60]); (with_reducible repeat (first | refine blk_drewN ?_ _ | refine blk_drew ?_ | refine blk_alloc ?_ _)); exact BKCz.out⟩, ⟨by exact belS⟩⟩
           case rest =>
            clear HC104
            try clear c1
            try clear c2
            try clear p2
            try clear c3
            try clear c4
            try clear c4b0
            try clear c5
            try clear c6
            try clear c7
            try clear c8
            try clear c9
            try clear c10
            try clear c11
            try clear c12
            try clear c13
            try clear c14
            try clear c21
            try clear c27
            try clear c28
            try clear c31
            try clear c33
            try clear c34
            try clear c35
            try clear c37
            try clear c39
            try clear c40
            try clear c41
            try clear c42
            try clear c44
            try clear c45
            try clear c47
            try clear c48
            try clear c49
            try clear c50
            try clear c52
            try clear c53
            try clear c56
            try clear c59
            try clear c66
            try clear c67
            try clear c68
            try clear c71
            try clear c71b0
            try clear c73
            try clear c74
            try clear c75
            try clear c76
            try clear c78
            try clear c79
            try clear c82
            try clear c83
            try clear c84
            try clear c86
            try clear c87
            try clear c90
            try clear c93
            try clear c93b0
            try clear c94
            try clear c95
            try clear c96
            try clear c101
            try clear c101b0
            try clear c101b1
            try clear c105
            try clear c106
            try clear c107
            try clear c112
            try clear c113
            try clear c119
            try clear c120
            try clear c121
            try clear c122
            try clear c126
            try clear c127
            try clear c128
            try clear c129
            try clear c130
            try clear c132
            try clear c133
            try clear c134
            try clear c137
            try clear c138
            try clear c139
            try clear c140
            try clear c142
            try clear c143
            try clear c144
            try clear hcz108_0 hcz108_1 hcz108_2 hcz108_3
            try clear hcz110_0 hcz110_1 hcz110_2 hcz110_3
            try clear hcz114_0 hcz114_1 hcz114_2 hcz114_3
            try clear hcz123_0 hcz123_1 hcz123_2 hcz123_3
            try clear hcz131_0 hcz131_1 hcz131_2 hcz131_3
            try clear hcz135_0 hcz135_1 hcz135_2 hcz135_3
            try clear hcz141_0 hcz141_1 hcz141_2 hcz141_3
            try clear hcz145_0 hcz145_1 hcz145_2 hcz145_3
            try clear hcz14_0 hcz14_1 hcz14_2 hcz14_3
            try clear hcz16_0 hcz16_1 hcz16_2 hcz16_3
            try clear hcz22_0 hcz22_1 hcz22_2 hcz22_3
            try clear hcz24_0 hcz24_1 hcz24_2 hcz24_3
            try clear hcz29_0 hcz29_1 hcz29_2 hcz29_3
            try clear hcz36_0 hcz36_1 hcz36_2 hcz36_3
            try clear hcz43_0 hcz43_1 hcz43_2 hcz43_3
            try clear hcz46_0 hcz46_1 hcz46_2 hcz46_3
            try clear hcz51_0 hcz51_1 hcz51_2 hcz51_3
            try clear hcz54_0 hcz54_1 hcz54_2 hcz54_3
            try clear hcz69_0 hcz69_1 hcz69_2 hcz69_3
            try clear hcz6_0 hcz6_1 hcz6_2 hcz6_3
            try clear hcz77_0 hcz77_1 hcz77_2 hcz77_3
            try clear hcz80_0 hcz80_1 hcz80_2 hcz80_3
            try clear hcz85_0 hcz85_1 hcz85_2 hcz85_3
            try clear hcz88_0 hcz88_1 hcz88_2 hcz88_3
            try clear hcz97_0 hcz97_1 hcz97_2 hcz97_3
            try clear hcz99_0 hcz99_1 hcz99_2 hcz99_3
            try clear hfz108_0 hfz108_1 hfz108_2 hfz108_3
            try clear hfz110_0 hfz110_1 hfz110_2 hfz110_3
            try clear hfz114_0 hfz114_1 hfz114_2 hfz114_3
            try clear hfz123_0 hfz123_1 hfz123_2 hfz123_3
            try clear hfz131_0 hfz131_1 hfz131_2 hfz131_3
            try clear hfz135_0 hfz135_1 hfz135_2 hfz135_3
            try clear hfz141_0 hfz141_1 hfz141_2 hfz141_3
            try clear hfz145_0 hfz145_1 hfz145_2 hfz145_3
            try clear hfz14_0 hfz14_1 hfz14_2 hfz14_3
            try clear hfz16_0 hfz16_1 hfz16_2 hfz16_3
            try clear hfz22_0 hfz22_1 hfz22_2 hfz22_3
            try clear hfz24_0 hfz24_1 hfz24_2 hfz24_3
            try clear hfz29_0 hfz29_1 hfz29_2 hfz29_3
            try clear hfz36_0 hfz36_1 hfz36_2 hfz36_3
            try clear hfz43_0 hfz43_1 hfz43_2 hfz43_3
            try clear hfz46_0 hfz46_1 hfz46_2 hfz46_3
            try clear hfz51_0 hfz51_1 hfz51_2 hfz51_3
            try clear hfz54_0 hfz54_1 hfz54_2 hfz54_3
            try clear hfz69_0 hfz69_1 hfz69_2 hfz69_3
            try clear hfz6_0 hfz6_1 hfz6_2 hfz6_3
            try clear hfz77_0 hfz77_1 hfz77_2 hfz77_3
            try clear hfz80_0 hfz80_1 hfz80_2 hfz80_3
            try clear hfz85_0 hfz85_1 hfz85_2 hfz85_3
            try clear hfz88_0 hfz88_1 hfz88_2 hfz88_3
            try clear hfz97_0 hfz97_1 hfz97_2 hfz97_3
            try clear hfz99_0 hfz99_1 hfz99_2 hfz99_3
            try clear p2
            obtain ⟨kq, x92_103, rfl, HA, HJ103, HO_BT003, HO_C0003, HO_C8003, HO_CA003, BKBD, BKBS, BKBZ, BKC7, BKCz, HB⟩ := hcut
            have hlC8003_103 := (Kd.R_reads' HO_C8003.out).1
            rw [hlC8003_103] at HO_C8003
            (try simp only [hlC8003_103])
            (try simp only [hlC8003_103] at BKBD)
            (try simp only [hlC8003_103] at BKBS)
            (try simp only [hlC8003_103] at BKBZ)
            (try simp only [hlC8003_103] at BKC7)
            (try simp only [hlC8003_103] at BKCz)
            (try simp only [hlC8003_103] at HO_BT003)
            (try simp only [hlC8003_103] at HO_C0003)
            (try simp only [hlC8003_103] at HO_CA003)
            cases kq with
            | zero => exact absurd HA.out (by simp [laws_FnExactDropJump.j2])
            | succ kj103 =>
             have H := HA.out
             clear HA
             simp only [laws_FnExactDropJump.j2] at H
             by_cases c147 : x92_103 = true
             ·subst c147
              have H1 : (some false) = some r := by rw [if_pos rfl] at H; exact H
              clear H
              have H := H1
              clear H1
              obtain rfl := Option.some.inj H
              go_wp2
              go_ret
              exact ⟨by first | rfl | (simp [errW_none, errW_some] <;> rfl) | (simp [*, errW_none, errW_some] <;> rfl), by exact belS⟩
             ·replace c147 := Bool.eq_false_iff.mpr c147
              subst c147
              have H1 : ((laws_heldBoard.f kj103 tC0 tC1 tC2 tCk 1).bind fun tCB => (if tCB < 0 then (some false) else (if tCB = tCj then (some true) else (some false)))) = some r := by rw [if_neg (show ¬ (false = true) by decide)] at H; exact H
              clear H
              have H := H1
              clear H1
              replace H := Option.bind_eq_some_iff.mp H
              obtain ⟨tCB, A1480, H⟩ := H
              replace H : (if tCB < 0 then (some false) else (if tCB = tCj then (some true) else (some false))) = some r := H
              have A148 := Aside0.mk A1480
              clear A1480
              by_cases c149 : tCB < 0
              ·rw [if_pos c149] at H
               have c149b0 : decide (tCB < 0) = true := decide_eq_true c149
               clear c149
               obtain rfl := Option.some.inj H
               have hnb150 := NBC7_BD.out
               have hnc150 := NBBD_C7.out
               have hnb151 := NBC7_BS.out
               have hnc151 := NBBS_C7.out
               have hnb152 := NBC7_BZ.out
               have hnc152 := NBBZ_C7.out
               have hnb153 := NBC7_Cz.out
               have hnc153 := NBCz_C7.out
               obtain ⟨hcz154_0, hcz154_1, hcz154_2, hcz154_3, hfz154_0, hfz154_1, hfz154_2, hfz154_3⟩ := blk4 BKC7.out
               go_wp2_with (first | ((with_reducible refine gate_callee (f := 48) rfl ?_); refine goesL_ (some 95) rfl rfl Try.func48 (by kernel_rfl) rfl #[.agg #[.int .i64 tC0, .int .i64 tC1, .int .i64 tC2, .slice Ao37 tCk.length co37], .int .i64 1] rfl argS ?_; (with_reducible refine (laws_heldBoard.calls kj103 tC0 tC1 tC2 _ _ tCk 1 tCB _ ?side1 ?side2 A148.out).mono ?_); (case side1 => exact Kd.C_up (Kd.R_reads' HO_C8003.out).2.2); (case side2 => exact (Kd.R_reads' HO_C8003.out).2.1); rintro e w155 ⟨rfl, hb⟩; refine ⟨_, rfl, ?_⟩; have n0_ := Aside0.mk (Kd.R_below (Kd.R_up HO_BT003.out) hb); have n1_ := Aside0.mk (Kd.R_below (Kd.R_up HO_C0003.out) hb); have n2_ := Aside0.mk (Kd.R_below (Kd.R_up HO_C8003.out) hb); have n3_ := Aside0.mk (Kd.R_below (Kd.R_up HO_CA003.out) hb); have n4_ := Aside0.mk (blk_below (blk_up BKBD.out) hb); have n5_ := Aside0.mk (blk_below (blk_up BKBS.out) hb); have n6_ := Aside0.mk (blk_below (blk_up BKBZ.out) hb); have n7_ := Aside0.mk (blk_below (blk_up BKC7.out) hb); have n8_ := Aside0.mk (blk_below (blk_up BKCz.out) hb); have n9_ := Aside0.mk (below_step belS hb); clear HO_BT003; clear HO_C0003; clear HO_C8003; clear HO_CA003; clear BKBD; clear BKBS; clear BKBZ; clear BKC7; clear BKCz; clear HB; have HO_BT003 := n0_; have HO_C0003 := n1_; have HO_C8003 := n2_; have HO_CA003 := n3_; have BKBD := n4_; have BKBS := n5_; have BKBZ := n6_; have BKC7 := n7_; have BKCz := n8_; have HB := n9_; clear n0_ n1_ n2_ n3_ n4_ n5_ n6_ n7_ n8_ n9_; (try clear hb); (try clear hb2); (try clear hk); (try clear hi)))
               go_ret
               exact ⟨by first | rfl | (simp [errW_none, errW_some] <;> rfl) | (simp [*, errW_none, errW_some] <;> rfl), by exact belS⟩
              ·rw [if_neg c149] at H
               have c149b0 : decide (tCB < 0) = false := decide_eq_false c149
               clear c149
               by_cases c156 : tCB = tCj
               ·rw [if_pos c156] at H
                have c156b0 : (tCB == tCj) = true := beq_iff_eq.mpr c156
                have c156b1 : (tCB != tCj) = false := bne_eq_false_iff_eq.mpr c156
                clear c156
                obtain rfl := Option.some.inj H
                have hnb157 := NBC7_BD.out
                have hnc157 := NBBD_C7.out
                have hnb158 := NBC7_BS.out
                have hnc158 := NBBS_C7.out
                have hnb159 := NBC7_BZ.out
                have hnc159 := NBBZ_C7.out
                have hnb160 := NBC7_Cz.out
                have hnc160 := NBCz_C7.out
                obtain ⟨hcz161_0, hcz161_1, hcz161_2, hcz161_3, hfz161_0, hfz161_1, hfz161_2, hfz161_3⟩ := blk4 BKC7.out
                go_wp2_with (first | ((with_reducible refine gate_callee (f := 48) rfl ?_); refine goesL_ (some 95) rfl rfl Try.func48 (by kernel_rfl) rfl #[.agg #[.int .i64 tC0, .int .i64 tC1, .int .i64 tC2, .slice Ao37 tCk.length co37], .int .i64 1] rfl argS ?_; (with_reducible refine (laws_heldBoard.calls kj103 tC0 tC1 tC2 _ _ tCk 1 tCB _ ?side1 ?side2 A148.out).mono ?_); (case side1 => exact Kd.C_up (Kd.R_reads' HO_C8003.out).2.2); (case side2 => exact (Kd.R_reads' HO_C8003.out).2.1); rintro e w162 ⟨rfl, hb⟩; refine ⟨_, rfl, ?_⟩; have n0_ := Aside0.mk (Kd.R_below (Kd.R_up HO_BT003.out) hb); have n1_ := Aside0.mk (Kd.R_below (Kd.R_up HO_C0003.out) hb); have n2_ := Aside0.mk (Kd.R_below (Kd.R_up HO_C8003.out) hb); have n3_ := Aside0.mk (Kd.R_below (Kd.R_up HO_CA003.out) hb); have n4_ := Aside0.mk (blk_below (blk_up BKBD.out) hb); have n5_ := Aside0.mk (blk_below (blk_up BKBS.out) hb); have n6_ := Aside0.mk (blk_below (blk_up BKBZ.out) hb); have n7_ := Aside0.mk (blk_below (blk_up BKC7.out) hb); have n8_ := Aside0.mk (blk_below (blk_up BKCz.out) hb); have n9_ := Aside0.mk (below_step belS hb); clear HO_BT003; clear HO_C0003; clear HO_C8003; clear HO_CA003; clear BKBD; clear BKBS; clear BKBZ; clear BKC7; clear BKCz; clear HB; have HO_BT003 := n0_; have HO_C0003 := n1_; have HO_C8003 := n2_; have HO_CA003 := n3_; have BKBD := n4_; have BKBS := n5_; have BKBZ := n6_; have BKC7 := n7_; have BKCz := n8_; have HB := n9_; clear n0_ n1_ n2_ n3_ n4_ n5_ n6_ n7_ n8_ n9_; (try clear hb); (try clear hb2); (try clear hk); (try clear hi)))
                go_ret
                exact ⟨by first | rfl | (simp [errW_none, errW_some] <;> rfl) | (simp [*, errW_none, errW_some] <;> rfl), by exact belS⟩
               ·rw [if_neg c156] at H
                have c156b0 : (tCB == tCj) = false := beq_eq_false_iff_ne.mpr c156
                have c156b1 : (tCB != tCj) = true := bne_iff_ne.mpr c156
                obtain rfl := Option.some.inj H
                have hnb163 := NBC7_BD.out
                have hnc163 := NBBD_C7.out
                have hnb164 := NBC7_BS.out
                have hnc164 := NBBS_C7.out
                have hnb165 := NBC7_BZ.out
                have hnc165 := NBBZ_C7.out
                have hnb166 := NBC7_Cz.out
                have hnc166 := NBCz_C7.out
                obtain ⟨hcz167_0, hcz167_1, hcz167_2, hcz167_3, hfz167_0, hfz167_1, hfz167_2, hfz167_3⟩ := blk4 BKC7.out
                go_wp2_with (first | ((with_reducible refine gate_callee (f := 48) rfl ?_); refine goesL_ (some 95) rfl rfl Try.func48 (by kernel_rfl) rfl #[.agg #[.int .i64 tC0, .int .i64 tC1, .int .i64 tC2, .slice Ao37 tCk.length co37], .int .i64 1] rfl argS ?_; (with_reducible refine (laws_heldBoard.calls kj103 tC0 tC1 tC2 _ _ tCk 1 tCB _ ?side1 ?side2 A148.out).mono ?_); (case side1 => exact Kd.C_up (Kd.R_reads' HO_C8003.out).2.2); (case side2 => exact (Kd.R_reads' HO_C8003.out).2.1); rintro e w168 ⟨rfl, hb⟩; refine ⟨_, rfl, ?_⟩; have n0_ := Aside0.mk (Kd.R_below (Kd.R_up HO_BT003.out) hb); have n1_ := Aside0.mk (Kd.R_below (Kd.R_up HO_C0003.out) hb); have n2_ := Aside0.mk (Kd.R_below (Kd.R_up HO_C8003.out) hb); have n3_ := Aside0.mk (Kd.R_below (Kd.R_up HO_CA003.out) hb); have n4_ := Aside0.mk (blk_below (blk_up BKBD.out) hb); have n5_ := Aside0.mk (blk_below (blk_up BKBS.out) hb); have n6_ := Aside0.mk (blk_below (blk_up BKBZ.out) hb); have n7_ := Aside0.mk (blk_below (blk_up BKC7.out) hb); have n8_ := Aside0.mk (blk_below (blk_up BKCz.out) hb); have n9_ := Aside0.mk (below_step belS hb); clear HO_BT003; clear HO_C0003; clear HO_C8003; clear HO_CA003; clear BKBD; clear BKBS; clear BKBZ; clear BKC7; clear BKCz; clear HB; have HO_BT003 := n0_; have HO_C0003 := n1_; have HO_C8003 := n2_; have HO_CA003 := n3_; have BKBD := n4_; have BKBS := n5_; have BKBZ := n6_; have BKC7 := n7_; have BKCz := n8_; have HB := n9_; clear n0_ n1_ n2_ n3_ n4_ n5_ n6_ n7_ n8_ n9_; (try clear hb); (try clear hb2); (try clear hk); (try clear hi)))
                go_ret
                exact ⟨by first | rfl | (simp [errW_none, errW_some] <;> rfl) | (simp [*, errW_none, errW_some] <;> rfl), by exact belS⟩
          ·rw [if_neg c101] at H
           have c101b0 : (tCl == tCj) = false := beq_eq_false_iff_ne.mpr c101
           have c101b1 : (tCl != tCj) = true := bne_iff_ne.mpr c101
           obtain rfl := Option.some.inj H
           have hnb169 := NBC7_BD.out
           have hnc169 := NBBD_C7.out
           have hnb170 := NBC7_BS.out
           have hnc170 := NBBS_C7.out
           have hnb171 := NBC7_BZ.out
           have hnc171 := NBBZ_C7.out
           obtain ⟨hcz172_0, hcz172_1, hcz172_2, hcz172_3, hfz172_0, hfz172_1, hfz172_2, hfz172_3⟩ := blk4 BKC7.out
           go_wp2_with (first | ((with_reducible refine gate_callee (f := 47) rfl ?_); refine goesL_ (some 68) rfl rfl Try.func47 (by kernel_rfl) rfl #[.agg #[.int .i64 tC0, .int .i64 tC1, .int .i64 tC2, .slice Ao37 tC3.length co37], .int .i64 1] rfl argS ?_; (with_reducible refine (laws_markBoard.calls kj60 tC0 tC1 tC2 (fun k_ => some k_ = (.slice Ao37 tC3.length co37 : Value).ownBlock) (.slice Ao37 tC3.length co37) tC3 1 tCj tCk w _ ?side1 ?side2 A91.out).mono ?_); (case side1 => exact belS); (case side2 => exact Kd.R_tight rfl HO_C8003.out); rintro e w173 ⟨rfl, hy0, hb, hkp⟩; refine ⟨_, rfl, ?_⟩; have n0_ := Aside0.mk (Kd.R_mono (ok' := fun k_ => some k_ ≠ (.slice Ao30 tCh.length co30 : Value).ownBlock ∧ some k_ ≠ (.slice Ao37 tC3.length co37 : Value).ownBlock) (Kd.R_keptB (HO_BT003.out) hkp (fun k_ hk_ hs_ => (hk_.2) hs_)) (fun k_ hk_ => ⟨hk_.1.1, hk_.1.2⟩)); have n1_ := Aside0.mk (Kd.R_mono (ok' := fun k_ => some k_ ≠ (.slice Ao23 tBO.length co23 : Value).ownBlock ∧ some k_ ≠ (.slice Ao37 tC3.length co37 : Value).ownBlock) (Kd.R_keptB (HO_C0003.out) hkp (fun k_ hk_ hs_ => (hk_.2) hs_)) (fun k_ hk_ => ⟨hk_.1.1, hk_.1.2⟩)); have n2_ := Aside0.mk (Kd.R_reok rfl hy0 (fun k_ e_ => HO_C8003.out.1 k_ e_)); have n3_ := Aside0.mk (blk_kept (blk_up BKBD.out) hkp (fun hs_ => (fun e_ => (Kd.R_ne HO_C8003.out BKBD.out (by decide)) e_) hs_)); have n4_ := Aside0.mk (blk_kept (blk_up BKBS.out) hkp (fun hs_ => (fun e_ => (Kd.R_ne HO_C8003.out BKBS.out (by decide)) e_) hs_)); have n5_ := Aside0.mk (blk_kept (blk_up BKBZ.out) hkp (fun hs_ => (fun e_ => (Kd.R_ne HO_C8003.out BKBZ.out (by decide)) e_) hs_)); have n6_ := Aside0.mk (blk_kept (blk_up BKC7.out) hkp (fun hs_ => (fun e_ => (Kd.R_ne HO_C8003.out BKC7.out (by decide)) e_) hs_)); have n7_ := Aside0.mk (hb); clear HO_BT003; clear HO_C0003; clear HO_C8003; clear BKBD; clear BKBS; clear BKBZ; clear BKC7; clear HB; have HO_BT003 := n0_; have HO_C0003 := n1_; have HO_C8003 := n2_; have BKBD := n3_; have BKBS := n4_; have BKBZ := n5_; have BKC7 := n6_; have HB := n7_; clear n0_ n1_ n2_ n3_ n4_ n5_ n6_ n7_; (try clear hb); (try clear hkp); (try clear hy0); obtain ⟨hcz174_0, hcz174_1, hcz174_2, hcz174_3, hfz174_0, hfz174_1, hfz174_2, hfz174_3⟩ := blk4 BKC7.out) | ((with_reducible refine gate_callee (f := 48) rfl ?_); refine goesL_ (some 71) rfl rfl Try.func48 (by kernel_rfl) rfl #[.agg #[.int .i64 tC0, .int .i64 tC1, .int .i64 tC2, .slice Ao37 tCk.length co37], .int .i64 1] rfl (by (try simp only [List.map_toArray, List.map_cons, List.map_nil]); first | done | (rw [show tCk.length = tC3.length from (Kd.R_reads' HO_C8003.out).1.symm] <;> rfl) | rfl | (simp only [List.length_drop, List.length_take]; rfl)) ?_; (with_reducible refine (laws_heldBoard.calls kj60 tC0 tC1 tC2 _ _ tCk 1 tCl _ ?side1 ?side2 A92.out).mono ?_); (case side1 => exact Kd.C_up (Kd.R_reads' HO_C8003.out).2.2); (case side2 => rw [show tCk.length = tC3.length from (Kd.R_reads' HO_C8003.out).1.symm]; exact (Kd.R_reads' HO_C8003.out).2.1); rintro e w175 ⟨rfl, hb⟩; refine ⟨_, rfl, ?_⟩; have n0_ := Aside0.mk (Kd.R_below (Kd.R_up HO_BT003.out) hb); have n1_ := Aside0.mk (Kd.R_below (Kd.R_up HO_C0003.out) hb); have n2_ := Aside0.mk (Kd.R_below (Kd.R_up HO_C8003.out) hb); have n3_ := Aside0.mk (blk_below (blk_up BKBD.out) hb); have n4_ := Aside0.mk (blk_below (blk_up BKBS.out) hb); have n5_ := Aside0.mk (blk_below (blk_up BKBZ.out) hb); have n6_ := Aside0.mk (blk_below (blk_up BKC7.out) hb); have n7_ := Aside0.mk (below_step belS hb); clear HO_BT003; clear HO_C0003; clear HO_C8003; clear BKBD; clear BKBS; clear BKBZ; clear BKC7; clear HB; have HO_BT003 := n0_; have HO_C0003 := n1_; have HO_C8003 := n2_; have BKBD := n3_; have BKBS := n4_; have BKBZ := n5_; have BKC7 := n6_; have HB := n7_; clear n0_ n1_ n2_ n3_ n4_ n5_ n6_ n7_; (try clear hb); (try clear hb2); (try clear hk); (try clear hi)))
           go_ret
           exact ⟨by first | rfl | (simp [errW_none, errW_some] <;> rfl) | (simp [*, errW_none, errW_some] <;> rfl), by exact belS⟩
     ·replace c59 := Bool.eq_false_iff.mpr c59
      subst c59
      have H1 : (some false) = some r := by rw [if_neg (show ¬ (false = true) by decide)] at H; exact H
      clear H
      have H := H1
      clear H1
      obtain rfl := Option.some.inj H
      try go_wp2
      have n0_ := Aside0.mk (Kd.R_drew HO_BT003.out)
      have n1_ := Aside0.mk (Kd.R_drew HO_C0003.out)
      have n2_ := Aside0.mk (Kd.R_drew HO_C8003.out)
      have n3_ := Aside0.mk (blk_drew BKBD.out)
      have n4_ := Aside0.mk (blk_drew BKBS.out)
      have n5_ := Aside0.mk (blk_drew BKBZ.out)
      have n6_ := Aside0.mk (blk_drew BKC7.out)
      have n7_ := Aside0.mk (below_drew1 HB.out)
      clear HO_BT003
      clear HO_C0003
      clear HO_C8003
      clear BKBD
      clear BKBS
      clear BKBZ
      clear BKC7
      clear HB
      have HO_BT003 := n0_
      have HO_C0003 := n1_
      have HO_C8003 := n2_
      have BKBD := n3_
      have BKBS := n4_
      have BKBZ := n5_
      have BKC7 := n6_
      have HB := n7_
      clear n0_ n1_ n2_ n3_ n4_ n5_ n6_ n7_
      refine start_ (n := 5) (S := fun w' => w'.cell? ⟨gbBZ, 0, none⟩ = some (.int .i64 tBT) ∧ w'.cell? ⟨gbBZ, 1, none⟩ = some (.int .i64 tBU) ∧ w'.cell? ⟨gbBZ, 2, none⟩ = some (.int .i64 tBV) ∧ w'.cell? ⟨gbBZ, 3, none⟩ = some (.slice Ao30 tBW.length co30) ∧ w'.cell? ⟨gbBD, 0, none⟩ = some (.int .i64 a0_0) ∧ w'.cell? ⟨gbBD, 1, none⟩ = some (.int .i64 a0_1) ∧ w'.cell? ⟨gbBD, 2, none⟩ = some (.int .i64 a0_2) ∧ w'.cell? ⟨gbBD, 3, none⟩ = some (.slice A0_3 l0_3.length c0_3)) (ds := []) #[false, false, false, false, false] (by kernel_rfl) rfl rfl ⟨(blk_cell BKBZ.out 0).trans rfl, (blk_cell BKBZ.out 1).trans rfl, (blk_cell BKBZ.out 2).trans rfl, (blk_cell BKBZ.out 3).trans rfl, (blk_cell BKBD.out 0).trans rfl, (blk_cell BKBD.out 1).trans rfl, (blk_cell BKBD.out 2).trans rfl, (blk_cell BKBD.out 3).trans rfl⟩ (fun hHeld => ?_)
      generalize wc.drew = w176 at HO_BT003 HO_C0003 HO_C8003 BKBD BKBS BKBZ BKC7 HB hHeld ⊢
      refine take_ (i := 0) (N := some 45) (v := ?_) (a' := ?_) #[true, false, false, false, false] rfl rfl (by kernel_rfl) (fun _ _ _ h => h) (Or.inl ⟨by rfl, ?_⟩) hHeld ?_ ?_
      rotate_left
      ·rintro w' ⟨s0, s1, s2, s3, s4, s5, s6, s7⟩
       go_simp
       with_reducible rfl
      rotate_left
      ·simp only [Act.put, List.setIfInBounds_toArray, List.set_cons_zero, List.set_cons_succ, i64_w, i32_w]
       rfl
      refine take_ (i := 1) (N := some 46) (v := ?_) (a' := ?_) #[true, true, false, false, false] rfl rfl (by kernel_rfl) (fun _ _ _ h => h) (Or.inl ⟨by rfl, ?_⟩) hHeld ?_ ?_
      rotate_left
      ·rintro w' ⟨s0, s1, s2, s3, s4, s5, s6, s7⟩
       go_simp
       with_reducible rfl
      rotate_left
      ·simp only [Act.put, List.setIfInBounds_toArray, List.set_cons_zero, List.set_cons_succ, i64_w, i32_w]
       rfl
      refine one_ (i := 2) (N := some 47) #[true, true, true, false, false] rfl rfl (by kernel_rfl) (by decide) (fun K hK => ?_)
      refine goes_ Try.func39 (by kernel_rfl) rfl #[.agg #[.int .i64 a0_0, .int .i64 a0_1, .int .i64 a0_2, .slice A0_3 l0_3.length c0_3]] (by rfl) rfl rfl argS ?_
      with_reducible refine (laws_toBoard.calls kj11 a0_0 a0_1 a0_2 _ _ l0_3 tC9 tCa tCb tCc _ ?side1 ?side2 A57.out).mono ?_
      (case side1 => exact Kd.C_up (Kd.C_below HR0_3.out HB.out))
      (case side2 => exact HC0_3.out)
      rintro e w177 ⟨vCd, rfl, ho0, hb⟩
      refine ⟨_, rfl, ?_⟩
      have n0_ := Aside0.mk (Kd.R_elder' (Kd.R_up HO_BT003.out) (Kd.R_base ho0) hb)
      have n1_ := Aside0.mk (Kd.R_elder' (Kd.R_up HO_C0003.out) (Kd.R_base ho0) hb)
      have n2_ := Aside0.mk (Kd.R_elder' (Kd.R_up HO_C8003.out) (Kd.R_base ho0) hb)
      have n3_ := Aside0.mk (Kd.R_lower (Kd.R_new' (Kd.R_new' (Kd.R_new' ho0 (Kd.R_lt (Kd.R_up HO_BT003.out))) (Kd.R_lt (Kd.R_up HO_C0003.out))) (Kd.R_lt (Kd.R_up HO_C8003.out))) (below_size belS))
      have n4_ := Aside0.mk (blk_below (blk_up BKBD.out) hb)
      have n5_ := Aside0.mk (blk_below (blk_up BKBS.out) hb)
      have n6_ := Aside0.mk (blk_below (blk_up BKBZ.out) hb)
      have n7_ := Aside0.mk (blk_below (blk_up BKC7.out) hb)
      have n8_ := Aside0.mk (below_step belS hb)
      clear HO_BT003
      clear HO_C0003
      clear HO_C8003
      clear BKBD
      clear BKBS
      clear BKBZ
      clear BKC7
      clear HB
      have HO_BT003 := n0_
      have HO_C0003 := n1_
      have HO_C8003 := n2_
      have HOCe := n3_
      have BKBD := n4_
      have BKBS := n5_
      have BKBZ := n6_
      have BKC7 := n7_
      have HB := n8_
      clear n0_ n1_ n2_ n3_ n4_ n5_ n6_ n7_ n8_
      (try clear hb)
      (try clear hb2)
      (try clear hk)
      (try clear hi)
      (try clear ho0)
      obtain ⟨Ao178, co178, eo178⟩ := Kd.R_slice HOCe.out
      (first | subst eo178 | (injection eo178 with f1_ f2_ f3_; have f4_ := f1_.symm; have f5_ := f3_.symm; clear f1_ f2_ f3_; subst f4_; subst f5_))
      refine hK.out _ _ ⟨(blk_cell BKBZ.out 0).trans rfl, (blk_cell BKBZ.out 1).trans rfl, (blk_cell BKBZ.out 2).trans rfl, (blk_cell BKBZ.out 3).trans rfl, (blk_cell BKBD.out 0).trans rfl, (blk_cell BKBD.out 1).trans rfl, (blk_cell BKBD.out 2).trans rfl, (blk_cell BKBD.out 3).trans rfl⟩ (fun hHeld => ?_)
      clear hK K
      refine norm_ (a' := ?_) ?_ ?_
      rotate_left
      ·show Act.put _ (some 47) _ = _
       simp only [Act.put, List.setIfInBounds_toArray, List.set_cons_zero, List.set_cons_succ, i64_w, i32_w]
       rfl
      refine one_ (i := 3) (N := some 48) #[true, true, true, true, false] rfl rfl (by kernel_rfl) (by decide) (fun K hK => ?_)
      refine goes_ Try.func42 (by kernel_rfl) rfl #[.agg #[.int .i64 tBT, .int .i64 tBU, .int .i64 tBV, .slice Ao30 tBW.length co30], .agg #[.int .i64 tC9, .int .i64 tCa, .int .i64 tCb, .slice Ao178 tCc.length co178]] (by rfl) rfl rfl argS ?_
      with_reducible refine (laws_eqBoard.calls kj11 tBT tBU tBV _ _ tBW tC9 tCa tCb _ _ tCc false _ ?side1 ?side2 ?side3 ?side4 A58.out).mono ?_
      (case side1 => exact Kd.C_up (Kd.R_reads' HO_C0003.out).2.2)
      (case side2 => exact (Kd.R_reads' HO_C0003.out).2.1)
      (case side3 => exact Kd.C_up (Kd.R_reads' HOCe.out).2.2)
      (case side4 => exact (Kd.R_reads' HOCe.out).2.1)
      rintro e w179 ⟨rfl, hb⟩
      refine ⟨_, rfl, ?_⟩
      have n0_ := Aside0.mk (Kd.R_below (Kd.R_up HO_BT003.out) hb)
      have n1_ := Aside0.mk (Kd.R_below (Kd.R_up HO_C0003.out) hb)
      have n2_ := Aside0.mk (Kd.R_below (Kd.R_up HO_C8003.out) hb)
      have n3_ := Aside0.mk (Kd.R_below (Kd.R_up HOCe.out) hb)
      have n4_ := Aside0.mk (blk_below (blk_up BKBD.out) hb)
      have n5_ := Aside0.mk (blk_below (blk_up BKBS.out) hb)
      have n6_ := Aside0.mk (blk_below (blk_up BKBZ.out) hb)
      have n7_ := Aside0.mk (blk_below (blk_up BKC7.out) hb)
      have n8_ := Aside0.mk (below_step belS hb)
      clear HO_BT003
      clear HO_C0003
      clear HO_C8003
      clear HOCe
      clear BKBD
      clear BKBS
      clear BKBZ
      clear BKC7
      clear HB
      have HO_BT003 := n0_
      have HO_C0003 := n1_
      have HO_C8003 := n2_
      have HOCe := n3_
      have BKBD := n4_
      have BKBS := n5_
      have BKBZ := n6_
      have BKC7 := n7_
      have HB := n8_
      clear n0_ n1_ n2_ n3_ n4_ n5_ n6_ n7_ n8_
      (try clear hb)
      (try clear hb2)
      (try clear hk)
      (try clear hi)
      refine hK.out _ _ ⟨(blk_cell BKBZ.out 0).trans rfl, (blk_cell BKBZ.out 1).trans rfl, (blk_cell BKBZ.out 2).trans rfl, (blk_cell BKBZ.out 3).trans rfl, (blk_cell BKBD.out 0).trans rfl, (blk_cell BKBD.out 1).trans rfl, (blk_cell BKBD.out 2).trans rfl, (blk_cell BKBD.out 3).trans rfl⟩ (fun hHeld => ?_)
      clear hK K
      refine norm_ (a' := ?_) ?_ ?_
      rotate_left
      ·show Act.put _ (some 48) _ = _
       simp only [Act.put, List.setIfInBounds_toArray, List.set_cons_zero, List.set_cons_succ, i64_w, i32_w]
       rfl
      refine pure_ (i := 4) (N := some 49) (v := ?_) (a' := ?_) #[true, true, true, true, true] rfl rfl (by kernel_rfl) (fun _ _ _ h => h) (Or.inl ⟨by rfl, ?_⟩) ?_ ?_
      rotate_left
      ·intro w'
       go_simp
       with_reducible rfl
      rotate_left
      ·simp only [Act.put, List.setIfInBounds_toArray, List.set_cons_zero, List.set_cons_succ, i64_w, i32_w]
       rfl
      refine done_ (by kernel_rfl) ?_
      try go_wp2
      go_ret
      exact ⟨by first | rfl | (simp [errW_none, errW_some] <;> rfl) | (simp [*, errW_none, errW_some] <;> rfl), by exact belS⟩

end Go.Proofs.Ytkobjjadojpjfaa.Pr
