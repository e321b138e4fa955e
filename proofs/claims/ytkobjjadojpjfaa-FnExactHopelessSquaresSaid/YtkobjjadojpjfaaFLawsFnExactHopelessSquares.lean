-- A text of the machine side, written by wip/gen.py of this repo out of the translation. Not trusted: Lean checks it.
import Derived.Test.YtkobjjadojpjfaaF0
import Derived.Test.YtkobjjadojpjfaaFGA
import Derived.Test.YtkobjjadojpjfaaFGM
import Derived.Test.YtkobjjadojpjfaaFImplHopelessSquares
import Derived.Test.YtkobjjadojpjfaaFSpecHopelessSquares
namespace Go.Proofs.Ytkobjjadojpjfaa.Pr
open Go.RowKit Go.Proofs.YtkobjjadojpjfaaW.PrintWords Go.Proofs.YtkobjjadojpjfaaW.PrintLast Go.Proofs.YtkobjjadojpjfaaW.PrintMore
attribute [local go_sem] max2_int min2_int max_two min_two max_three min_three max_four min_four   -- for this text's walks alone
set_option linter.unusedVariables false
set_option linter.unusedSimpArgs false

/-! ### laws_FnExactHopelessSquares: function 23 -/
mutual
def laws_FnExactHopelessSquares.j0 : Nat → List Int → Bool → List Int → Bool → Bool → Int → Int → Int → List (S82) → Int → Int → Int → List (S27) → Option (Bool)
 | 0, _, _, _, _, _, _, _, _, _, _, _, _, _ => none
 | k + 1, x4, x5, x7, x8, x40, x46102000, x46102001, x46102002, x46102003, x46120000, x46120001, x46120002, x46120003 => if x40 = true then (some false) else ((laws_toBoard.f k x46102000 x46102001 x46102002 x46102003).bind fun bt46125 => ((laws_eqBoard.f k x46120000 x46120001 x46120002 x46120003 bt46125.1 bt46125.2.1 bt46125.2.2.1 bt46125.2.2.2).bind fun t46131 => (if t46131 = true then ((laws_markBoard.f k x46120000 x46120001 x46120002 x46120003 1).bind fun bt46132 => (if bt46132.1 < 0 then (laws_FnExactHopelessSquares.j1 k x4 x5 x7 true x46102000 x46102001 x46102002 x46102003) else ((laws_eqIntS.f k x7 x4).bind fun t46134 => (if t46134 = true then (laws_FnExactHopelessSquares.j1 k x4 x5 x7 (x8 != x5) x46102000 x46102001 x46102002 x46102003) else (laws_FnExactHopelessSquares.j1 k x4 x5 x7 true x46102000 x46102001 x46102002 x46102003))))) else (some false))))
def laws_FnExactHopelessSquares.j1 : Nat → List Int → Bool → List Int → Bool → Int → Int → Int → List (S82) → Option (Bool)
 | 0, _, _, _, _, _, _, _, _ => none
 | k + 1, x4, x5, x7, x61, x46102000, x46102001, x46102002, x46102003 => if x61 = true then (some false) else ((laws_markIntS.f k x7 1).bind fun bt46135 => ((laws_heldIntS.f k bt46135.2 1).bind fun t46137 => (if t46137 < 0 then (some false) else (if t46137 = bt46135.1 then ((laws_toBoard.f k x46102000 x46102001 x46102002 x46102003).bind fun bt46138 => ((impl_HopelessSquares.f k bt46138.1 bt46138.2.1 bt46138.2.2.1 bt46138.2.2.2).bind fun bt46144 => ((laws_eqIntS.f k bt46144.1 x4).bind fun t46148 => (if t46148 = true then (laws_FnExactHopelessSquares.j2 k bt46135.2 bt46135.1 (bt46144.2 != x5)) else (laws_FnExactHopelessSquares.j2 k bt46135.2 bt46135.1 true))))) else (some false)))))
def laws_FnExactHopelessSquares.j2 : Nat → List Int → Int → Bool → Option (Bool)
 | 0, _, _, _ => none
 | k + 1, x7, x10, x87 => if x87 = true then (some false) else ((laws_heldIntS.f k x7 1).bind fun t46149 => (if t46149 < 0 then (some false) else (if t46149 = x10 then (some true) else (some false))))
end
def laws_FnExactHopelessSquares.f (k : Nat) (a0_0 : Int) (a0_1 : Int) (a0_2 : Int) (l0_3 : List (S82)) : Option (Bool) := (laws_szBoard.f a0_0 a0_1 a0_2 l0_3 1048576).bind fun t46102 => (if t46102 < 0 then (some true) else ((laws_toBoard.f k a0_0 a0_1 a0_2 l0_3).bind fun bt46103 => ((spec_HopelessSquares.f k bt46103.1 bt46103.2.1 bt46103.2.2.1 bt46103.2.2.2).bind fun bt46109 => ((laws_toBoard.f k a0_0 a0_1 a0_2 l0_3).bind fun bt46113 => ((impl_HopelessSquares.f k bt46113.1 bt46113.2.1 bt46113.2.2.1 bt46113.2.2.2).bind fun bt46120 => ((laws_eqIntS.f k bt46120.1 bt46109.1).bind fun t46124 => (if t46124 = true then (laws_FnExactHopelessSquares.j0 k bt46109.1 bt46109.2 bt46120.1 bt46120.2 (bt46120.2 != bt46109.2) a0_0 a0_1 a0_2 l0_3 bt46113.1 bt46113.2.1 bt46113.2.2.1 bt46113.2.2.2) else (laws_FnExactHopelessSquares.j0 k bt46109.1 bt46109.2 bt46120.1 bt46120.2 true a0_0 a0_1 a0_2 l0_3 bt46113.1 bt46113.2.1 bt46113.2.2.1 bt46113.2.2.2))))))))
set_option maxHeartbeats 8000000 in
set_option maxRecDepth 100000 in
theorem laws_FnExactHopelessSquares.calls (k : Nat) (a0_0 : Int) (a0_1 : Int) (a0_2 : Int) (A0_3 : Option Addr) (c0_3 : Nat) (l0_3 : List (S82)) (r : Bool) (w : World) (hr0_3 : Kd.C k82 w A0_3 l0_3.length l0_3) (hc0_3 : l0_3.length ≤ c0_3) (h : laws_FnExactHopelessSquares.f k a0_0 a0_1 a0_2 l0_3 = some r) :
  Calls Try.prog 23 #[.agg #[.int .i64 a0_0, .int .i64 a0_1, .int .i64 a0_2, .slice A0_3 l0_3.length c0_3]] w fun e w' => e = .returned (.bool r) ∧ Below w.heap.size w w' := by
 have hu24 := Try.underlying24
 have hu32 := Try.underlying32
 have HR0_3 := Aside0.mk hr0_3
 have HC0_3 := Aside0.mk hc0_3
 clear hr0_3 hc0_3
 have HB := Aside0.mk (Below.refl w.heap.size w)
 have H : ((laws_szBoard.f a0_0 a0_1 a0_2 l0_3 1048576).bind fun t46102 => (if t46102 < 0 then (some true) else ((laws_toBoard.f k a0_0 a0_1 a0_2 l0_3).bind fun bt46103 => ((spec_HopelessSquares.f k bt46103.1 bt46103.2.1 bt46103.2.2.1 bt46103.2.2.2).bind fun bt46109 => ((laws_toBoard.f k a0_0 a0_1 a0_2 l0_3).bind fun bt46113 => ((impl_HopelessSquares.f k bt46113.1 bt46113.2.1 bt46113.2.2.1 bt46113.2.2.2).bind fun bt46120 => ((laws_eqIntS.f k bt46120.1 bt46109.1).bind fun t46124 => (if t46124 = true then (laws_FnExactHopelessSquares.j0 k bt46109.1 bt46109.2 bt46120.1 bt46120.2 (bt46120.2 != bt46109.2) a0_0 a0_1 a0_2 l0_3 bt46113.1 bt46113.2.1 bt46113.2.2.1 bt46113.2.2.2) else (laws_FnExactHopelessSquares.j0 k bt46109.1 bt46109.2 bt46120.1 bt46120.2 true a0_0 a0_1 a0_2 l0_3 bt46113.1 bt46113.2.1 bt46113.2.2.1 bt46113.2.2.2))))))))) = some r := h
 clear h
 replace H := Option.bind_eq_some_iff.mp H
 obtain ⟨t46102, A20, H⟩ := H
 replace H : (if t46102 < 0 then (some true) else ((laws_toBoard.f k a0_0 a0_1 a0_2 l0_3).bind fun bt46103 => ((spec_HopelessSquares.f k bt46103.1 bt46103.2.1 bt46103.2.2.1 bt46103.2.2.2).bind fun bt46109 => ((laws_toBoard.f k a0_0 a0_1 a0_2 l0_3).bind fun bt46113 => ((impl_HopelessSquares.f k bt46113.1 bt46113.2.1 bt46113.2.2.1 bt46113.2.2.2).bind fun bt46120 => ((laws_eqIntS.f k bt46120.1 bt46109.1).bind fun t46124 => (if t46124 = true then (laws_FnExactHopelessSquares.j0 k bt46109.1 bt46109.2 bt46120.1 bt46120.2 (bt46120.2 != bt46109.2) a0_0 a0_1 a0_2 l0_3 bt46113.1 bt46113.2.1 bt46113.2.2.1 bt46113.2.2.2) else (laws_FnExactHopelessSquares.j0 k bt46109.1 bt46109.2 bt46120.1 bt46120.2 true a0_0 a0_1 a0_2 l0_3 bt46113.1 bt46113.2.1 bt46113.2.2.1 bt46113.2.2.2)))))))) = some r := H
 have A2 := Aside0.mk A20
 clear A20
 by_cases c3 : t46102 < 0
 ·rw [if_pos c3] at H
  have c3b0 : decide (t46102 < 0) = true := decide_eq_true c3
  clear c3
  obtain rfl := Option.some.inj H
  go_enter Try.func23, Try.ntmps23
  go_wp2_with (first | ((with_reducible refine gate_dst (N := 1) rfl ?_); refine box_event ?hg (N := 1) ?hd (cs := #[.int .i64 a0_0, .int .i64 a0_1, .int .i64 a0_2, .slice A0_3 l0_3.length c0_3]) (t := 24) ?hr ?_; (case hd => rfl); (case hg => rfl); (case hr => first | (go_simp; done) | (go_simp; rfl)); intro gb46101 hg w4 hbox hb; have n0_ := Aside0.mk (below_step (by repeat (first | (with_reducible first | exact HB.out | apply below_alloc | apply pw_below_drewN | apply below_drew1) | exact HB.out)) hb); have n1_ := Aside0.mk (hbox); have n2_ := Aside0.mk ((by rw [hg]; exact (below_size (by repeat (first | (with_reducible first | exact HB.out | apply below_alloc | apply pw_below_drewN | apply below_drew1) | exact HB.out))) : w.heap.size ≤ gb46101)); have n3_ := Aside0.mk ((by rw [hg]; exact (below_size (by repeat (first | (with_reducible first | exact HB.out | apply below_alloc | apply pw_below_drewN | apply below_drew1) | exact HB.out))) : w.heap.size ≤ gb46101)); clear HB; have HB := n0_; have BK46101 := n1_; have GW46101 := n2_; have GE46101 := n3_; clear n0_ n1_ n2_ n3_; clear hb hbox hg; have hcz5_0 : w4.cell? ⟨gb46101, 0, none⟩ = some (.int .i64 a0_0) := (blk_cell BK46101.out 0).trans rfl; have hcz5_1 : w4.cell? ⟨gb46101, 1, none⟩ = some (.int .i64 a0_1) := (blk_cell BK46101.out 1).trans rfl; have hcz5_2 : w4.cell? ⟨gb46101, 2, none⟩ = some (.int .i64 a0_2) := (blk_cell BK46101.out 2).trans rfl; have hcz5_3 : w4.cell? ⟨gb46101, 3, none⟩ = some (.slice A0_3 l0_3.length c0_3) := (blk_cell BK46101.out 3).trans rfl; have hfz5_0 := blk_frozen BK46101.out 0; have hfz5_1 := blk_frozen BK46101.out 1; have hfz5_2 := blk_frozen BK46101.out 2; have hfz5_3 := blk_frozen BK46101.out 3) | ((with_reducible refine gate_callee (f := 37) rfl ?_); refine goesL_ (some 16) rfl rfl Try.func37 (by kernel_rfl) rfl #[.agg #[.int .i64 a0_0, .int .i64 a0_1, .int .i64 a0_2, .slice A0_3 l0_3.length c0_3], .int .i64 1048576] rfl (by (try simp only [List.map_toArray, List.map_cons, List.map_nil]); first | done | rfl | (simp only [List.length_drop, List.length_take]; rfl)) ?_; (with_reducible refine (laws_szBoard.calls a0_0 a0_1 a0_2 _ _ l0_3 1048576 t46102 _ ?side1 ?side2 A2.out).mono ?_); (case side1 => repeat (first | exact (Kd.C_below HR0_3.out HB.out) | (with_reducible refine Kd.C_alloc ?_ _) | (with_reducible refine Kd.C_drewN ?_ _) | (with_reducible refine Kd.C_drew ?_))); (case side2 => exact HC0_3.out); rintro e w6 ⟨rfl, hb⟩; refine ⟨_, rfl, ?_⟩; have n0_ := Aside0.mk (blk_below (g := gb46101) (o := .cells #[.int .i64 a0_0, .int .i64 a0_1, .int .i64 a0_2, .slice A0_3 l0_3.length c0_3] 24 (0, 0)) (by (with_reducible repeat (first | refine blk_drewN ?_ _ | refine blk_drew ?_ | refine blk_alloc ?_ _)); exact BK46101.out) hb); have n1_ := Aside0.mk (below_step (by repeat (first | (with_reducible first | exact HB.out | apply below_alloc | apply pw_below_drewN | apply below_drew1 | refine below_set ?_ GE46101.out) | exact HB.out)) hb); clear BK46101; clear HB; have BK46101 := n0_; have HB := n1_; clear n0_ n1_; (try clear hb); (try clear hb2); (try clear hk); (try clear hi)))
  go_ret
  exact ⟨by first | rfl | (simp [errW_none, errW_some] <;> rfl) | (simp [*, errW_none, errW_some] <;> rfl), by repeat (first | (with_reducible first | exact HB.out | apply below_alloc | apply pw_below_drewN | apply below_drew1 | refine below_set ?_ GE46101.out) | exact HB.out)⟩
 ·rw [if_neg c3] at H
  have c3b0 : decide (t46102 < 0) = false := decide_eq_false c3
  clear c3
  replace H := Option.bind_eq_some_iff.mp H
  obtain ⟨⟨t46103, t46104, t46105, t46106⟩, A70, H⟩ := H
  replace H : ((spec_HopelessSquares.f k t46103 t46104 t46105 t46106).bind fun bt46109 => ((laws_toBoard.f k a0_0 a0_1 a0_2 l0_3).bind fun bt46113 => ((impl_HopelessSquares.f k bt46113.1 bt46113.2.1 bt46113.2.2.1 bt46113.2.2.2).bind fun bt46120 => ((laws_eqIntS.f k bt46120.1 bt46109.1).bind fun t46124 => (if t46124 = true then (laws_FnExactHopelessSquares.j0 k bt46109.1 bt46109.2 bt46120.1 bt46120.2 (bt46120.2 != bt46109.2) a0_0 a0_1 a0_2 l0_3 bt46113.1 bt46113.2.1 bt46113.2.2.1 bt46113.2.2.2) else (laws_FnExactHopelessSquares.j0 k bt46109.1 bt46109.2 bt46120.1 bt46120.2 true a0_0 a0_1 a0_2 l0_3 bt46113.1 bt46113.2.1 bt46113.2.2.1 bt46113.2.2.2)))))) = some r := H
  have A7 := Aside0.mk A70
  clear A70
  replace H := Option.bind_eq_some_iff.mp H
  obtain ⟨⟨t46109, t46112⟩, A80, H⟩ := H
  replace H : ((laws_toBoard.f k a0_0 a0_1 a0_2 l0_3).bind fun bt46113 => ((impl_HopelessSquares.f k bt46113.1 bt46113.2.1 bt46113.2.2.1 bt46113.2.2.2).bind fun bt46120 => ((laws_eqIntS.f k bt46120.1 t46109).bind fun t46124 => (if t46124 = true then (laws_FnExactHopelessSquares.j0 k t46109 t46112 bt46120.1 bt46120.2 (bt46120.2 != t46112) a0_0 a0_1 a0_2 l0_3 bt46113.1 bt46113.2.1 bt46113.2.2.1 bt46113.2.2.2) else (laws_FnExactHopelessSquares.j0 k t46109 t46112 bt46120.1 bt46120.2 true a0_0 a0_1 a0_2 l0_3 bt46113.1 bt46113.2.1 bt46113.2.2.1 bt46113.2.2.2))))) = some r := H
  have A8 := Aside0.mk A80
  clear A80
  replace H := Option.bind_eq_some_iff.mp H
  obtain ⟨⟨t46113, t46114, t46115, t46116⟩, A90, H⟩ := H
  replace H : ((impl_HopelessSquares.f k t46113 t46114 t46115 t46116).bind fun bt46120 => ((laws_eqIntS.f k bt46120.1 t46109).bind fun t46124 => (if t46124 = true then (laws_FnExactHopelessSquares.j0 k t46109 t46112 bt46120.1 bt46120.2 (bt46120.2 != t46112) a0_0 a0_1 a0_2 l0_3 t46113 t46114 t46115 t46116) else (laws_FnExactHopelessSquares.j0 k t46109 t46112 bt46120.1 bt46120.2 true a0_0 a0_1 a0_2 l0_3 t46113 t46114 t46115 t46116)))) = some r := H
  have A9 := Aside0.mk A90
  clear A90
  replace H := Option.bind_eq_some_iff.mp H
  obtain ⟨⟨t46120, t46123⟩, A100, H⟩ := H
  replace H : ((laws_eqIntS.f k t46120 t46109).bind fun t46124 => (if t46124 = true then (laws_FnExactHopelessSquares.j0 k t46109 t46112 t46120 t46123 (t46123 != t46112) a0_0 a0_1 a0_2 l0_3 t46113 t46114 t46115 t46116) else (laws_FnExactHopelessSquares.j0 k t46109 t46112 t46120 t46123 true a0_0 a0_1 a0_2 l0_3 t46113 t46114 t46115 t46116))) = some r := H
  have A10 := Aside0.mk A100
  clear A100
  have HC11 := Aside0.mk H
  clear H
  go_enter Try.func23, Try.ntmps23
  go_upto_region 8 with (first | ((with_reducible refine gate_dst (N := 1) rfl ?_); refine box_event ?hg (N := 1) ?hd (cs := #[.int .i64 a0_0, .int .i64 a0_1, .int .i64 a0_2, .slice A0_3 l0_3.length c0_3]) (t := 24) ?hr ?_; (case hd => rfl); (case hg => rfl); (case hr => first | (go_simp; done) | (go_simp; rfl)); intro gb46101 hg w12 hbox hb; have n0_ := Aside0.mk (below_step (by repeat (first | (with_reducible first | exact HB.out | apply below_alloc | apply pw_below_drewN | apply below_drew1) | exact HB.out)) hb); have n1_ := Aside0.mk (hbox); have n2_ := Aside0.mk ((by rw [hg]; exact (below_size (by repeat (first | (with_reducible first | exact HB.out | apply below_alloc | apply pw_below_drewN | apply below_drew1) | exact HB.out))) : w.heap.size ≤ gb46101)); have n3_ := Aside0.mk ((by rw [hg]; exact (below_size (by repeat (first | (with_reducible first | exact HB.out | apply below_alloc | apply pw_below_drewN | apply below_drew1) | exact HB.out))) : w.heap.size ≤ gb46101)); clear HB; have HB := n0_; have BK46101 := n1_; have GW46101 := n2_; have GE46101 := n3_; clear n0_ n1_ n2_ n3_; clear hb hbox hg; have hcz13_0 : w12.cell? ⟨gb46101, 0, none⟩ = some (.int .i64 a0_0) := (blk_cell BK46101.out 0).trans rfl; have hcz13_1 : w12.cell? ⟨gb46101, 1, none⟩ = some (.int .i64 a0_1) := (blk_cell BK46101.out 1).trans rfl; have hcz13_2 : w12.cell? ⟨gb46101, 2, none⟩ = some (.int .i64 a0_2) := (blk_cell BK46101.out 2).trans rfl; have hcz13_3 : w12.cell? ⟨gb46101, 3, none⟩ = some (.slice A0_3 l0_3.length c0_3) := (blk_cell BK46101.out 3).trans rfl; have hfz13_0 := blk_frozen BK46101.out 0; have hfz13_1 := blk_frozen BK46101.out 1; have hfz13_2 := blk_frozen BK46101.out 2; have hfz13_3 := blk_frozen BK46101.out 3) | ((with_reducible refine gate_callee (f := 37) rfl ?_); refine goesL_ (some 16) rfl rfl Try.func37 (by kernel_rfl) rfl #[.agg #[.int .i64 a0_0, .int .i64 a0_1, .int .i64 a0_2, .slice A0_3 l0_3.length c0_3], .int .i64 1048576] rfl (by (try simp only [List.map_toArray, List.map_cons, List.map_nil]); first | done | rfl | (simp only [List.length_drop, List.length_take]; rfl)) ?_; (with_reducible refine (laws_szBoard.calls a0_0 a0_1 a0_2 _ _ l0_3 1048576 t46102 _ ?side1 ?side2 A2.out).mono ?_); (case side1 => repeat (first | exact (Kd.C_below HR0_3.out HB.out) | (with_reducible refine Kd.C_alloc ?_ _) | (with_reducible refine Kd.C_drewN ?_ _) | (with_reducible refine Kd.C_drew ?_))); (case side2 => exact HC0_3.out); rintro e w14 ⟨rfl, hb⟩; refine ⟨_, rfl, ?_⟩; have n0_ := Aside0.mk (blk_below (g := gb46101) (o := .cells #[.int .i64 a0_0, .int .i64 a0_1, .int .i64 a0_2, .slice A0_3 l0_3.length c0_3] 24 (0, 0)) (by (with_reducible repeat (first | refine blk_drewN ?_ _ | refine blk_drew ?_ | refine blk_alloc ?_ _)); exact BK46101.out) hb); have n1_ := Aside0.mk (below_step (by repeat (first | (with_reducible first | exact HB.out | apply below_alloc | apply pw_below_drewN | apply below_drew1 | refine below_set ?_ GE46101.out) | exact HB.out)) hb); clear BK46101; clear HB; have BK46101 := n0_; have HB := n1_; clear n0_ n1_; (try clear hb); (try clear hb2); (try clear hk); (try clear hi); have hcz15_0 : w14.cell? ⟨gb46101, 0, none⟩ = some (.int .i64 a0_0) := (blk_cell BK46101.out 0).trans rfl; have hcz15_1 : w14.cell? ⟨gb46101, 1, none⟩ = some (.int .i64 a0_1) := (blk_cell BK46101.out 1).trans rfl; have hcz15_2 : w14.cell? ⟨gb46101, 2, none⟩ = some (.int .i64 a0_2) := (blk_cell BK46101.out 2).trans rfl; have hcz15_3 : w14.cell? ⟨gb46101, 3, none⟩ = some (.slice A0_3 l0_3.length c0_3) := (blk_cell BK46101.out 3).trans rfl; have hfz15_0 := blk_frozen BK46101.out 0; have hfz15_1 := blk_frozen BK46101.out 1; have hfz15_2 := blk_frozen BK46101.out 2; have hfz15_3 := blk_frozen BK46101.out 3) | ((with_reducible refine gate_callee (f := 39) rfl ?_); refine goesL_ (some 21) rfl rfl Try.func39 (by kernel_rfl) rfl #[.agg #[.int .i64 a0_0, .int .i64 a0_1, .int .i64 a0_2, .slice A0_3 l0_3.length c0_3]] rfl (by (try simp only [List.map_toArray, List.map_cons, List.map_nil]); first | done | rfl | (simp only [List.length_drop, List.length_take]; rfl)) ?_; (with_reducible refine (laws_toBoard.calls k a0_0 a0_1 a0_2 _ _ l0_3 t46103 t46104 t46105 t46106 _ ?side1 ?side2 A7.out).mono ?_); (case side1 => repeat (first | exact (Kd.C_below HR0_3.out HB.out) | (with_reducible refine Kd.C_alloc ?_ _) | (with_reducible refine Kd.C_drewN ?_ _) | (with_reducible refine Kd.C_drew ?_))); (case side2 => exact HC0_3.out); rintro e w16 ⟨v46107, rfl, ho0, hb⟩; refine ⟨_, rfl, ?_⟩; have n0_ := Aside0.mk (Kd.R_lower ho0 (below_size (by repeat (first | (with_reducible first | exact HB.out | apply below_alloc | apply pw_below_drewN | apply below_drew1 | refine below_set ?_ GE46101.out) | exact HB.out)))); have n1_ := Aside0.mk (blk_below (g := gb46101) (o := .cells #[.int .i64 a0_0, .int .i64 a0_1, .int .i64 a0_2, .slice A0_3 l0_3.length c0_3] 24 (0, 0)) (by (with_reducible repeat (first | refine blk_drewN ?_ _ | refine blk_drew ?_ | refine blk_alloc ?_ _)); exact BK46101.out) hb); have n2_ := Aside0.mk (below_step (by repeat (first | (with_reducible first | exact HB.out | apply below_alloc | apply pw_below_drewN | apply below_drew1 | refine below_set ?_ GE46101.out) | exact HB.out)) hb); clear BK46101; clear HB; have HO46108 := n0_; have BK46101 := n1_; have HB := n2_; clear n0_ n1_ n2_; (try clear hb); (try clear hb2); (try clear hk); (try clear hi); (try clear ho0); obtain ⟨Ao17, co17, eo17⟩ := Kd.R_slice HO46108.out; subst eo17) | ((with_reducible refine gate_callee (f := 95) rfl ?_); refine goesL_ (some 22) rfl rfl Try.func95 (by kernel_rfl) rfl #[.agg #[.int .i64 t46103, .int .i64 t46104, .int .i64 t46105, .slice Ao17 t46106.length co17]] rfl (by (try simp only [List.map_toArray, List.map_cons, List.map_nil]); first | done | rfl | (simp only [List.length_drop, List.length_take]; rfl)) ?_; (with_reducible refine (spec_HopelessSquares.calls k t46103 t46104 t46105 _ _ t46106 t46109 t46112 _ ?side1 ?side2 A8.out).mono ?_); (case side1 => repeat (first | exact (Kd.R_reads' HO46108.out).2.2 | (with_reducible refine Kd.C_alloc ?_ _) | (with_reducible refine Kd.C_drewN ?_ _) | (with_reducible refine Kd.C_drew ?_))); (case side2 => exact (Kd.R_reads' HO46108.out).2.1); rintro e w18 ⟨v46110, rfl, ho0, hb⟩; refine ⟨_, rfl, ?_⟩; have n0_ := Aside0.mk (Kd.R_below (by (with_reducible repeat (first | apply Kd.R_alloc | apply Kd.R_drewN | apply Kd.R_drew)); exact HO46108.out) hb); have n1_ := Aside0.mk (Kd.R_lower ho0 (below_size (by repeat (first | (with_reducible first | exact HB.out | apply below_alloc | apply pw_below_drewN | apply below_drew1 | refine below_set ?_ GE46101.out) | exact HB.out)))); have n2_ := Aside0.mk (blk_below (g := gb46101) (o := .cells #[.int .i64 a0_0, .int .i64 a0_1, .int .i64 a0_2, .slice A0_3 l0_3.length c0_3] 24 (0, 0)) (by (with_reducible repeat (first | refine blk_drewN ?_ _ | refine blk_drew ?_ | refine blk_alloc ?_ _)); exact BK46101.out) hb); have n3_ := Aside0.mk (below_step (by repeat (first | (with_reducible first | exact HB.out | apply below_alloc | apply pw_below_drewN | apply below_drew1 | refine below_set ?_ GE46101.out) | exact HB.out)) hb); clear HO46108; clear BK46101; clear HB; have HO46108 := n0_; have HO46111 := n1_; have BK46101 := n2_; have HB := n3_; clear n0_ n1_ n2_ n3_; (try clear hb); (try clear hb2); (try clear hk); (try clear hi); (try clear ho0); have hcz19_0 : w18.cell? ⟨gb46101, 0, none⟩ = some (.int .i64 a0_0) := (blk_cell BK46101.out 0).trans rfl; have hcz19_1 : w18.cell? ⟨gb46101, 1, none⟩ = some (.int .i64 a0_1) := (blk_cell BK46101.out 1).trans rfl; have hcz19_2 : w18.cell? ⟨gb46101, 2, none⟩ = some (.int .i64 a0_2) := (blk_cell BK46101.out 2).trans rfl; have hcz19_3 : w18.cell? ⟨gb46101, 3, none⟩ = some (.slice A0_3 l0_3.length c0_3) := (blk_cell BK46101.out 3).trans rfl; have hfz19_0 := blk_frozen BK46101.out 0; have hfz19_1 := blk_frozen BK46101.out 1; have hfz19_2 := blk_frozen BK46101.out 2; have hfz19_3 := blk_frozen BK46101.out 3) | ((with_reducible refine gate_callee (f := 39) rfl ?_); refine goesL_ (some 26) rfl rfl Try.func39 (by kernel_rfl) rfl #[.agg #[.int .i64 a0_0, .int .i64 a0_1, .int .i64 a0_2, .slice A0_3 l0_3.length c0_3]] rfl (by (try simp only [List.map_toArray, List.map_cons, List.map_nil]); first | done | rfl | (simp only [List.length_drop, List.length_take]; rfl)) ?_; (with_reducible refine (laws_toBoard.calls k a0_0 a0_1 a0_2 _ _ l0_3 t46113 t46114 t46115 t46116 _ ?side1 ?side2 A9.out).mono ?_); (case side1 => repeat (first | exact (Kd.C_below HR0_3.out HB.out) | (with_reducible refine Kd.C_alloc ?_ _) | (with_reducible refine Kd.C_drewN ?_ _) | (with_reducible refine Kd.C_drew ?_))); (case side2 => exact HC0_3.out); rintro e w20 ⟨v46117, rfl, ho0, hb⟩; refine ⟨_, rfl, ?_⟩; have n0_ := Aside0.mk (Kd.R_elder' (by (with_reducible repeat (first | apply Kd.R_alloc | apply Kd.R_drewN | apply Kd.R_drew)); exact HO46108.out) (Kd.R_base ho0) hb); have n1_ := Aside0.mk (Kd.R_below (by (with_reducible repeat (first | apply Kd.R_alloc | apply Kd.R_drewN | apply Kd.R_drew)); exact HO46111.out) hb); have n2_ := Aside0.mk (Kd.R_lower (Kd.R_new' ho0 (Kd.R_lt (by (with_reducible repeat (first | apply Kd.R_alloc | apply Kd.R_drewN | apply Kd.R_drew)); exact HO46108.out))) (below_size (by repeat (first | (with_reducible first | exact HB.out | apply below_alloc | apply pw_below_drewN | apply below_drew1 | refine below_set ?_ GE46101.out) | exact HB.out)))); have n3_ := Aside0.mk (blk_below (g := gb46101) (o := .cells #[.int .i64 a0_0, .int .i64 a0_1, .int .i64 a0_2, .slice A0_3 l0_3.length c0_3] 24 (0, 0)) (by (with_reducible repeat (first | refine blk_drewN ?_ _ | refine blk_drew ?_ | refine blk_alloc ?_ _)); exact BK46101.out) hb); have n4_ := Aside0.mk (below_step (by repeat (first | (with_reducible first | exact HB.out | apply below_alloc | apply pw_below_drewN | apply below_drew1 | refine below_set ?_ GE46101.out) | exact HB.out)) hb); clear HO46108; clear HO46111; clear BK46101; clear HB; have HO46108 := n0_; have HO46111 := n1_; have HO46118 := n2_; have BK46101 := n3_; have HB := n4_; clear n0_ n1_ n2_ n3_ n4_; (try clear hb); (try clear hb2); (try clear hk); (try clear hi); (try clear ho0)) | ((with_reducible refine gate_dst (N := 6) rfl ?_); refine box_event ?hg (N := 6) ?hd (cs := #[.int .i64 0, .int .i64 0, .int .i64 0, .slice none 0 0]) (t := 32) ?hr ?_; (case hd => rfl); (case hg => rfl); (case hr => first | (go_simp; done) | (go_simp; rfl)); intro gb46119 hg w21 hbox hb; have n0_ := Aside0.mk (Kd.R_below (by (with_reducible repeat (first | apply Kd.R_alloc | apply Kd.R_drewN | apply Kd.R_drew)); exact HO46108.out) hb); have n1_ := Aside0.mk (Kd.R_below (by (with_reducible repeat (first | apply Kd.R_alloc | apply Kd.R_drewN | apply Kd.R_drew)); exact HO46111.out) hb); have n2_ := Aside0.mk (Kd.R_below (by (with_reducible repeat (first | apply Kd.R_alloc | apply Kd.R_drewN | apply Kd.R_drew)); exact HO46118.out) hb); have n3_ := Aside0.mk (blk_below (g := gb46101) (o := .cells #[.int .i64 a0_0, .int .i64 a0_1, .int .i64 a0_2, .slice A0_3 l0_3.length c0_3] 24 (0, 0)) (by (with_reducible repeat (first | refine blk_drewN ?_ _ | refine blk_drew ?_ | refine blk_alloc ?_ _)); exact BK46101.out) hb); have n4_ := Aside0.mk (below_step (by repeat (first | (with_reducible first | exact HB.out | apply below_alloc | apply pw_below_drewN | apply below_drew1 | refine below_set ?_ GE46101.out) | exact HB.out)) hb); have n5_ := Aside0.mk (hbox); have n6_ := Aside0.mk ((by rw [hg]; exact (below_size (by repeat (first | (with_reducible first | exact HB.out | apply below_alloc | apply pw_below_drewN | apply below_drew1 | refine below_set ?_ GE46101.out) | exact HB.out))) : w.heap.size ≤ gb46119)); have n7_ := Aside0.mk ((by rw [hg]; exact (below_size (by repeat (first | (with_reducible first | exact HB.out | apply below_alloc | apply pw_below_drewN | apply below_drew1 | refine below_set ?_ GE46101.out) | exact HB.out))) : w.heap.size ≤ gb46119)); have n8_ := Aside0.mk ((by rw [hg]; exact Nat.ne_of_lt (blk_lt (g := gb46101) (o := .cells #[.int .i64 a0_0, .int .i64 a0_1, .int .i64 a0_2, .slice A0_3 l0_3.length c0_3] 24 (0, 0)) (by (with_reducible repeat (first | refine blk_drewN ?_ _ | refine blk_drew ?_ | refine blk_alloc ?_ _)); exact BK46101.out)) : gb46101 ≠ gb46119)); have n9_ := Aside0.mk ((by rw [hg]; exact Nat.ne_of_gt (blk_lt (g := gb46101) (o := .cells #[.int .i64 a0_0, .int .i64 a0_1, .int .i64 a0_2, .slice A0_3 l0_3.length c0_3] 24 (0, 0)) (by (with_reducible repeat (first | refine blk_drewN ?_ _ | refine blk_drew ?_ | refine blk_alloc ?_ _)); exact BK46101.out)) : gb46119 ≠ gb46101)); clear HO46108; clear HO46111; clear HO46118; clear BK46101; clear HB; have HO46108 := n0_; have HO46111 := n1_; have HO46118 := n2_; have BK46101 := n3_; have HB := n4_; have BK46119 := n5_; have GW46119 := n6_; have GE46119 := n7_; have NB46101_46119 := n8_; have NB46119_46101 := n9_; clear n0_ n1_ n2_ n3_ n4_ n5_ n6_ n7_ n8_ n9_; clear hb hbox hg; have hnb22 := NB46119_46101.out; have hnc22 := NB46101_46119.out; have hcz23_0 : w21.cell? ⟨gb46119, 0, none⟩ = some (.int .i64 0) := (blk_cell BK46119.out 0).trans rfl; have hcz23_1 : w21.cell? ⟨gb46119, 1, none⟩ = some (.int .i64 0) := (blk_cell BK46119.out 1).trans rfl; have hcz23_2 : w21.cell? ⟨gb46119, 2, none⟩ = some (.int .i64 0) := (blk_cell BK46119.out 2).trans rfl; have hcz23_3 : w21.cell? ⟨gb46119, 3, none⟩ = some (.slice none 0 0) := (blk_cell BK46119.out 3).trans rfl; have hfz23_0 := blk_frozen BK46119.out 0; have hfz23_1 := blk_frozen BK46119.out 1; have hfz23_2 := blk_frozen BK46119.out 2; have hfz23_3 := blk_frozen BK46119.out 3; obtain ⟨Ao24, co24, eo24⟩ := Kd.R_slice HO46118.out; subst eo24) | ((with_reducible refine gate_callee (f := 96) rfl ?_); refine goesL_ (some 29) rfl rfl Try.func96 (by kernel_rfl) rfl #[.agg #[.int .i64 t46113, .int .i64 t46114, .int .i64 t46115, .slice Ao24 t46116.length co24]] rfl (by (try simp only [List.map_toArray, List.map_cons, List.map_nil]); first | done | rfl | (simp only [List.length_drop, List.length_take]; rfl)) ?_; (with_reducible refine (impl_HopelessSquares.calls k t46113 t46114 t46115 _ _ t46116 t46120 t46123 _ ?side1 ?side2 A10.out).mono ?_); (case side1 => refine (Kd.R_reads' (e := 27) (base := w.heap.size) (ok := fun k_ => (True ∧ some k_ ≠ (.slice Ao17 t46106.length co17 : Value).ownBlock)) (n := t46116.length) (c := co24) ?_).2.2; exact (by (with_reducible repeat (first | apply Kd.R_alloc | apply Kd.R_drewN | apply Kd.R_drew)); exact (Kd.R_mono (Kd.R_far (p := ⟨gb46119, 3, none⟩) (Kd.R_far (p := ⟨gb46119, 2, none⟩) (Kd.R_far (p := ⟨gb46119, 1, none⟩) (Kd.R_far (p := ⟨gb46119, 0, none⟩) (Kd.R_types HO46118.out BK46119.out (by decide)) (fun _ hk => hk.2) (.int .i64 t46113)) (fun _ hk => hk.2) (.int .i64 t46114)) (fun _ hk => hk.2) (.int .i64 t46115)) (fun _ hk => hk.2) (.slice Ao24 t46116.length co24)) (fun _ h_ => h_.1)))); (case side2 => exact (Kd.R_reads' HO46118.out).2.1); rintro e w25 ⟨v46121, rfl, ho0, hb⟩; refine ⟨_, rfl, ?_⟩; have n0_ := Aside0.mk (Kd.R_below (by (with_reducible repeat (first | apply Kd.R_alloc | apply Kd.R_drewN | apply Kd.R_drew)); exact (Kd.R_mono (Kd.R_far (p := ⟨gb46119, 3, none⟩) (Kd.R_far (p := ⟨gb46119, 2, none⟩) (Kd.R_far (p := ⟨gb46119, 1, none⟩) (Kd.R_far (p := ⟨gb46119, 0, none⟩) (Kd.R_types HO46108.out BK46119.out (by decide)) (fun _ hk => hk.2) (.int .i64 t46113)) (fun _ hk => hk.2) (.int .i64 t46114)) (fun _ hk => hk.2) (.int .i64 t46115)) (fun _ hk => hk.2) (.slice Ao24 t46116.length co24)) (fun _ h_ => h_.1))) hb); have n1_ := Aside0.mk (Kd.R_elder' (by (with_reducible repeat (first | apply Kd.R_alloc | apply Kd.R_drewN | apply Kd.R_drew)); exact (Kd.R_mono (Kd.R_far (p := ⟨gb46119, 3, none⟩) (Kd.R_far (p := ⟨gb46119, 2, none⟩) (Kd.R_far (p := ⟨gb46119, 1, none⟩) (Kd.R_far (p := ⟨gb46119, 0, none⟩) (Kd.R_types HO46111.out BK46119.out (by decide)) (fun _ hk => hk.2) (.int .i64 t46113)) (fun _ hk => hk.2) (.int .i64 t46114)) (fun _ hk => hk.2) (.int .i64 t46115)) (fun _ hk => hk.2) (.slice Ao24 t46116.length co24)) (fun _ h_ => h_.1))) (Kd.R_base ho0) hb); have n2_ := Aside0.mk (Kd.R_below (by (with_reducible repeat (first | apply Kd.R_alloc | apply Kd.R_drewN | apply Kd.R_drew)); exact (Kd.R_mono (Kd.R_far (p := ⟨gb46119, 3, none⟩) (Kd.R_far (p := ⟨gb46119, 2, none⟩) (Kd.R_far (p := ⟨gb46119, 1, none⟩) (Kd.R_far (p := ⟨gb46119, 0, none⟩) (Kd.R_types HO46118.out BK46119.out (by decide)) (fun _ hk => hk.2) (.int .i64 t46113)) (fun _ hk => hk.2) (.int .i64 t46114)) (fun _ hk => hk.2) (.int .i64 t46115)) (fun _ hk => hk.2) (.slice Ao24 t46116.length co24)) (fun _ h_ => h_.1))) hb); have n3_ := Aside0.mk (Kd.R_lower (Kd.R_new' ho0 (Kd.R_lt (by (with_reducible repeat (first | apply Kd.R_alloc | apply Kd.R_drewN | apply Kd.R_drew)); exact (Kd.R_mono (Kd.R_far (p := ⟨gb46119, 3, none⟩) (Kd.R_far (p := ⟨gb46119, 2, none⟩) (Kd.R_far (p := ⟨gb46119, 1, none⟩) (Kd.R_far (p := ⟨gb46119, 0, none⟩) (Kd.R_types HO46111.out BK46119.out (by decide)) (fun _ hk => hk.2) (.int .i64 t46113)) (fun _ hk => hk.2) (.int .i64 t46114)) (fun _ hk => hk.2) (.int .i64 t46115)) (fun _ hk => hk.2) (.slice Ao24 t46116.length co24)) (fun _ h_ => h_.1))))) (below_size (by repeat (first | (with_reducible first | exact HB.out | apply below_alloc | apply pw_below_drewN | apply below_drew1 | refine below_set ?_ GE46101.out | refine below_set ?_ GE46119.out) | exact HB.out)))); have n4_ := Aside0.mk (blk_below (g := gb46101) (o := .cells #[.int .i64 a0_0, .int .i64 a0_1, .int .i64 a0_2, .slice A0_3 l0_3.length c0_3] 24 (0, 0)) (by (with_reducible repeat (first | refine blk_drewN ?_ _ | refine blk_drew ?_ | refine blk_alloc ?_ _)); refine blk_far ?_ NB46101_46119.out _; (with_reducible repeat (first | refine blk_drewN ?_ _ | refine blk_drew ?_ | refine blk_alloc ?_ _)); refine blk_far ?_ NB46101_46119.out _; (with_reducible repeat (first | refine blk_drewN ?_ _ | refine blk_drew ?_ | refine blk_alloc ?_ _)); refine blk_far ?_ NB46101_46119.out _; (with_reducible repeat (first | refine blk_drewN ?_ _ | refine blk_drew ?_ | refine blk_alloc ?_ _)); refine blk_far ?_ NB46101_46119.out _; (with_reducible repeat (first | refine blk_drewN ?_ _ | refine blk_drew ?_ | refine blk_alloc ?_ _)); exact BK46101.out) hb); have n5_ := Aside0.mk (blk_below (g := gb46119) (o := .cells #[.int .i64 t46113, .int .i64 t46114, .int .i64 t46115, .slice Ao24 t46116.length co24] 32 (0, 0)) (by (with_reducible repeat (first | refine blk_drewN ?_ _ | refine blk_drew ?_ | refine blk_alloc ?_ _)); refine blk_put (cs := #[.int .i64 t46113, .int .i64 t46114, .int .i64 t46115, .slice none 0 0]) ?_ 3 _ rfl; (with_reducible repeat (first | refine blk_drewN ?_ _ | refine blk_drew ?_ | refine blk_alloc ?_ _)); refine blk_put (cs := #[.int .i64 t46113, .int .i64 t46114, .int .i64 0, .slice none 0 0]) ?_ 2 _ rfl; (with_reducible repeat (first | refine blk_drewN ?_ _ | refine blk_drew ?_ | refine blk_alloc ?_ _)); refine blk_put (cs := #[.int .i64 t46113, .int .i64 0, .int .i64 0, .slice none 0 0]) ?_ 1 _ rfl; (with_reducible repeat (first | refine blk_drewN ?_ _ | refine blk_drew ?_ | refine blk_alloc ?_ _)); refine blk_put (cs := #[.int .i64 0, .int .i64 0, .int .i64 0, .slice none 0 0]) ?_ 0 _ rfl; (with_reducible repeat (first | refine blk_drewN ?_ _ | refine blk_drew ?_ | refine blk_alloc ?_ _)); exact BK46119.out) hb); have n6_ := Aside0.mk (below_step (by repeat (first | (with_reducible first | exact HB.out | apply below_alloc | apply pw_below_drewN | apply below_drew1 | refine below_set ?_ GE46101.out | refine below_set ?_ GE46119.out) | exact HB.out)) hb); clear HO46108; clear HO46111; clear HO46118; clear BK46101; clear BK46119; clear HB; have HO46108 := n0_; have HO46111 := n1_; have HO46118 := n2_; have HO46122 := n3_; have BK46101 := n4_; have BK46119 := n5_; have HB := n6_; clear n0_ n1_ n2_ n3_ n4_ n5_ n6_; (try clear hb); (try clear hb2); (try clear hk); (try clear hi); (try clear ho0)))
  (try simp only [Act.put, List.setIfInBounds_toArray, List.set_cons_zero, List.set_cons_succ])
  go_cut [40] (fun v40 wc => ∃ (kq : Nat) (x40_10 : Bool), v40 = .bool x40_10 ∧ Aside0 (laws_FnExactHopelessSquares.j0 kq t46109 t46112 t46120 t46123 x40_10 a0_0 a0_1 a0_2 l0_3 t46113 t46114 t46115 t46116 = some r) ∧ Aside0 (kq ≤ k) ∧ Aside0 (Kd.R (Kd.int .i64) 3 wc w.heap.size (fun k_ => some k_ ≠ (v46121 : Value).ownBlock) v46110 t46109) ∧ Aside0 (Kd.R (Kd.int .i64) 3 wc w.heap.size (fun k_ => some k_ ≠ (v46110 : Value).ownBlock) v46121 t46120) ∧ Aside0 (Kd.R k27 27 wc w.heap.size (fun _ => True) (.slice Ao24 t46116.length co24) t46116) ∧ Aside0 (wc.heap[gb46101]? = some (.cells #[.int .i64 a0_0, .int .i64 a0_1, .int .i64 a0_2, (.slice A0_3 l0_3.length c0_3)] 24 (0, 0))) ∧ Aside0 (wc.heap[gb46119]? = some (.cells #[.int .i64 t46113, .int .i64 t46114, .int .i64 t46115, (.slice Ao24 t46116.length co24)] 32 (0, 0))) ∧ Aside0 (Below w.heap.size w wc))
  case first =>
   have H := HC11.out
   clear HC11
   replace H := Option.bind_eq_some_iff.mp H
   obtain ⟨t46124, A260, H⟩ := H
   replace H : (if t46124 = true then (laws_FnExactHopelessSquares.j0 k t46109 t46112 t46120 t46123 (t46123 != t46112) a0_0 a0_1 a0_2 l0_3 t46113 t46114 t46115 t46116) else (laws_FnExactHopelessSquares.j0 k t46109 t46112 t46120 t46123 true a0_0 a0_1 a0_2 l0_3 t46113 t46114 t46115 t46116)) = some r := H
   have A26 := Aside0.mk A260
   clear A260
   by_cases c27 : t46124 = true
   ·subst c27
    have H1 : (laws_FnExactHopelessSquares.j0 k t46109 t46112 t46120 t46123 (t46123 != t46112) a0_0 a0_1 a0_2 l0_3 t46113 t46114 t46115 t46116) = some r := by rw [if_pos rfl] at H; exact H
    clear H
    have H := H1
    clear H1
    have H' := Aside0.mk H
    clear H
    obtain ⟨Ao28, co28, eo28⟩ := Kd.R_slice HO46122.out
    subst eo28
    obtain ⟨Ao29, co29, eo29⟩ := Kd.R_slice HO46111.out
    subst eo29
    go_wp2_with (first | ((with_reducible refine gate_callee (f := 67) rfl ?_); refine goesL_ (some 34) rfl rfl Try.func67 (by kernel_rfl) rfl #[.slice Ao28 t46120.length co28, .slice Ao29 t46109.length co29] rfl (by (try simp only [List.map_toArray, List.map_cons, List.map_nil]); first | done | rfl | (simp only [List.length_drop, List.length_take]; rfl)) ?_; (with_reducible refine (laws_eqIntS.calls k _ _ t46120 _ _ t46109 true _ ?side1 ?side2 ?side3 ?side4 A26.out).mono ?_); (case side1 => repeat (first | exact (Kd.R_reads' HO46122.out).2.2 | (with_reducible refine Kd.C_alloc ?_ _) | (with_reducible refine Kd.C_drewN ?_ _) | (with_reducible refine Kd.C_drew ?_))); (case side2 => exact (Kd.R_reads' HO46122.out).2.1); (case side3 => repeat (first | exact (Kd.R_reads' HO46111.out).2.2 | (with_reducible refine Kd.C_alloc ?_ _) | (with_reducible refine Kd.C_drewN ?_ _) | (with_reducible refine Kd.C_drew ?_))); (case side4 => exact (Kd.R_reads' HO46111.out).2.1); rintro e w' ⟨rfl, ⟨nd, rfl⟩⟩; refine ⟨_, rfl, ?_⟩))
    go_meet
    case rel => exact ⟨_, ((t46123 != t46112)), (by first | rfl | (simp; done) | (simp [*]; done)), H', ⟨by first | omega | exact Nat.le_refl _⟩, ⟨by (with_reducible repeat (first | apply Kd.R_alloc | apply Kd.R_drewN | apply Kd.R_drew)); exact Kd.R_mono HO46111.out (fun _ hk => hk.2)⟩, ⟨by (with_reducible repeat (first | apply Kd.R_alloc | apply Kd.R_drewN | apply Kd.R_drew)); exact Kd.R_mono HO46122.out (fun _ hk => hk.2)⟩, ⟨by (with_reducible repeat (first | apply Kd.R_alloc | apply Kd.R_drewN | apply Kd.R_drew)); exact Kd.R_mono HO46118.out (fun _ hk => trivial)⟩, ⟨by (with_reducible repeat (first | refine blk_drewN ?_ _ | refine blk_drew ?_ | refine blk_alloc ?_ _)); exact BK46101.out⟩, ⟨by (with_reducible repeat (first | refine blk_drewN ?_ _ | refine blk_drew ?_ | refine blk_alloc ?_ _)); exact BK46119.out⟩, ⟨by repeat (first | (with_reducible first | exact HB.out | apply below_alloc | apply pw_below_drewN | apply below_drew1 | refine below_set ?_ GE46101.out | refine below_set ?_ GE46119.out) | exact HB.out)⟩⟩
   ·replace c27 := Bool.eq_false_iff.mpr c27
    subst c27
    have H1 : (laws_FnExactHopelessSquares.j0 k t46109 t46112 t46120 t46123 true a0_0 a0_1 a0_2 l0_3 t46113 t46114 t46115 t46116) = some r := by rw [if_neg (show ¬ (false = true) by decide)] at H; exact H
    clear H
    have H := H1
    clear H1
    have H' := Aside0.mk H
    clear H
    obtain ⟨Ao30, co30, eo30⟩ := Kd.R_slice HO46122.out
    subst eo30
    obtain ⟨Ao31, co31, eo31⟩ := Kd.R_slice HO46111.out
    subst eo31
    go_wp2_with (first | ((with_reducible refine gate_callee (f := 67) rfl ?_); refine goesL_ (some 34) rfl rfl Try.func67 (by kernel_rfl) rfl #[.slice Ao30 t46120.length co30, .slice Ao31 t46109.length co31] rfl (by (try simp only [List.map_toArray, List.map_cons, List.map_nil]); first | done | rfl | (simp only [List.length_drop, List.length_take]; rfl)) ?_; (with_reducible refine (laws_eqIntS.calls k _ _ t46120 _ _ t46109 false _ ?side1 ?side2 ?side3 ?side4 A26.out).mono ?_); (case side1 => repeat (first | exact (Kd.R_reads' HO46122.out).2.2 | (with_reducible refine Kd.C_alloc ?_ _) | (with_reducible refine Kd.C_drewN ?_ _) | (with_reducible refine Kd.C_drew ?_))); (case side2 => exact (Kd.R_reads' HO46122.out).2.1); (case side3 => repeat (first | exact (Kd.R_reads' HO46111.out).2.2 | (with_reducible refine Kd.C_alloc ?_ _) | (with_reducible refine Kd.C_drewN ?_ _) | (with_reducible refine Kd.C_drew ?_))); (case side4 => exact (Kd.R_reads' HO46111.out).2.1); rintro e w' ⟨rfl, ⟨nd, rfl⟩⟩; refine ⟨_, rfl, ?_⟩))
    go_meet
    case rel => exact ⟨_, (true), (by first | rfl | (simp; done) | (simp [*]; done)), H', ⟨by first | omega | exact Nat.le_refl _⟩, ⟨by (with_reducible repeat (first | apply Kd.R_alloc | apply Kd.R_drewN | apply Kd.R_drew)); exact Kd.R_mono HO46111.out (fun _ hk => hk.2)⟩, ⟨by (with_reducible repeat (first | apply Kd.R_alloc | apply Kd.R_drewN | apply Kd.R_drew)); exact Kd.R_mono HO46122.out (fun _ hk => hk.2)⟩, ⟨by (with_reducible repeat (first | apply Kd.R_alloc | apply Kd.R_drewN | apply Kd.R_drew)); exact Kd.R_mono HO46118.out (fun _ hk => trivial)⟩, ⟨by (with_reducible repeat (first | refine blk_drewN ?_ _ | refine blk_drew ?_ | refine blk_alloc ?_ _)); exact BK46101.out⟩, ⟨by (with_reducible repeat (first | refine blk_drewN ?_ _ | refine blk_drew ?_ | refine blk_alloc ?_ _)); exact BK46119.out⟩, ⟨by repeat (first | (with_reducible first | exact HB.out | apply below_alloc | apply pw_below_drewN | apply below_drew1 | refine below_set ?_ GE46101.out | refine below_set ?_ GE46119.out) | exact HB.out)⟩⟩
  case rest =>
   clear HC11
   try clear c2
   try clear p2
   try clear c3
   try clear c3b0
   try clear c6
   try clear c9
   try clear c22
   try clear c23
   try clear c27
   try clear hcz13_0
   try clear hcz13_1
   try clear hcz13_2
   try clear hcz13_3
   try clear hcz15_0
   try clear hcz15_1
   try clear hcz15_2
   try clear hcz15_3
   try clear hcz19_0
   try clear hcz19_1
   try clear hcz19_2
   try clear hcz19_3
   try clear hcz23_0
   try clear hcz23_1
   try clear hcz23_2
   try clear hcz23_3
   try clear hcz5_0
   try clear hcz5_1
   try clear hcz5_2
   try clear hcz5_3
   try clear hfz13_0
   try clear hfz13_1
   try clear hfz13_2
   try clear hfz13_3
   try clear hfz15_0
   try clear hfz15_1
   try clear hfz15_2
   try clear hfz15_3
   try clear hfz19_0
   try clear hfz19_1
   try clear hfz19_2
   try clear hfz19_3
   try clear hfz23_0
   try clear hfz23_1
   try clear hfz23_2
   try clear hfz23_3
   try clear hfz5_0
   try clear hfz5_1
   try clear hfz5_2
   try clear hfz5_3
   obtain ⟨kq, x40_10, rfl, HA, HJ10, HO_4, HO_7, HO_46120003, BK46101, BK46119, HB⟩ := hcut
   cases kq with
   | zero => exact absurd HA.out (by simp [laws_FnExactHopelessSquares.j0])
   | succ kj10 =>
    have H := HA.out
    clear HA
    simp only [laws_FnExactHopelessSquares.j0] at H
    by_cases c32 : x40_10 = true
    ·subst c32
     have H1 : (some false) = some r := by rw [if_pos rfl] at H; exact H
     clear H
     have H := H1
     clear H1
     obtain rfl := Option.some.inj H
     go_wp2
     go_ret
     exact ⟨by first | rfl | (simp [errW_none, errW_some] <;> rfl) | (simp [*, errW_none, errW_some] <;> rfl), by repeat (first | (with_reducible first | exact HB.out | apply below_alloc | apply pw_below_drewN | apply below_drew1 | refine below_set ?_ GE46101.out | refine below_set ?_ GE46119.out) | exact HB.out)⟩
    ·replace c32 := Bool.eq_false_iff.mpr c32
     subst c32
     have H1 : ((laws_toBoard.f kj10 a0_0 a0_1 a0_2 l0_3).bind fun bt46125 => ((laws_eqBoard.f kj10 t46113 t46114 t46115 t46116 bt46125.1 bt46125.2.1 bt46125.2.2.1 bt46125.2.2.2).bind fun t46131 => (if t46131 = true then ((laws_markBoard.f kj10 t46113 t46114 t46115 t46116 1).bind fun bt46132 => (if bt46132.1 < 0 then (laws_FnExactHopelessSquares.j1 kj10 t46109 t46112 t46120 true a0_0 a0_1 a0_2 l0_3) else ((laws_eqIntS.f kj10 t46120 t46109).bind fun t46134 => (if t46134 = true then (laws_FnExactHopelessSquares.j1 kj10 t46109 t46112 t46120 (t46123 != t46112) a0_0 a0_1 a0_2 l0_3) else (laws_FnExactHopelessSquares.j1 kj10 t46109 t46112 t46120 true a0_0 a0_1 a0_2 l0_3))))) else (some false)))) = some r := by rw [if_neg (show ¬ (false = true) by decide)] at H; exact H
     clear H
     have H := H1
     clear H1
     replace H := Option.bind_eq_some_iff.mp H
     obtain ⟨⟨t46125, t46126, t46127, t46128⟩, A330, H⟩ := H
     replace H : ((laws_eqBoard.f kj10 t46113 t46114 t46115 t46116 t46125 t46126 t46127 t46128).bind fun t46131 => (if t46131 = true then ((laws_markBoard.f kj10 t46113 t46114 t46115 t46116 1).bind fun bt46132 => (if bt46132.1 < 0 then (laws_FnExactHopelessSquares.j1 kj10 t46109 t46112 t46120 true a0_0 a0_1 a0_2 l0_3) else ((laws_eqIntS.f kj10 t46120 t46109).bind fun t46134 => (if t46134 = true then (laws_FnExactHopelessSquares.j1 kj10 t46109 t46112 t46120 (t46123 != t46112) a0_0 a0_1 a0_2 l0_3) else (laws_FnExactHopelessSquares.j1 kj10 t46109 t46112 t46120 true a0_0 a0_1 a0_2 l0_3))))) else (some false))) = some r := H
     have A33 := Aside0.mk A330
     clear A330
     replace H := Option.bind_eq_some_iff.mp H
     obtain ⟨t46131, A340, H⟩ := H
     replace H : (if t46131 = true then ((laws_markBoard.f kj10 t46113 t46114 t46115 t46116 1).bind fun bt46132 => (if bt46132.1 < 0 then (laws_FnExactHopelessSquares.j1 kj10 t46109 t46112 t46120 true a0_0 a0_1 a0_2 l0_3) else ((laws_eqIntS.f kj10 t46120 t46109).bind fun t46134 => (if t46134 = true then (laws_FnExactHopelessSquares.j1 kj10 t46109 t46112 t46120 (t46123 != t46112) a0_0 a0_1 a0_2 l0_3) else (laws_FnExactHopelessSquares.j1 kj10 t46109 t46112 t46120 true a0_0 a0_1 a0_2 l0_3))))) else (some false)) = some r := H
     have A34 := Aside0.mk A340
     clear A340
     by_cases c35 : t46131 = true
     ·subst c35
      have H1 : ((laws_markBoard.f kj10 t46113 t46114 t46115 t46116 1).bind fun bt46132 => (if bt46132.1 < 0 then (laws_FnExactHopelessSquares.j1 kj10 t46109 t46112 t46120 true a0_0 a0_1 a0_2 l0_3) else ((laws_eqIntS.f kj10 t46120 t46109).bind fun t46134 => (if t46134 = true then (laws_FnExactHopelessSquares.j1 kj10 t46109 t46112 t46120 (t46123 != t46112) a0_0 a0_1 a0_2 l0_3) else (laws_FnExactHopelessSquares.j1 kj10 t46109 t46112 t46120 true a0_0 a0_1 a0_2 l0_3))))) = some r := by rw [if_pos rfl] at H; exact H
      clear H
      have H := H1
      clear H1
      replace H := Option.bind_eq_some_iff.mp H
      obtain ⟨⟨t46132, t46133⟩, A360, H⟩ := H
      replace H : (if t46132 < 0 then (laws_FnExactHopelessSquares.j1 kj10 t46109 t46112 t46120 true a0_0 a0_1 a0_2 l0_3) else ((laws_eqIntS.f kj10 t46120 t46109).bind fun t46134 => (if t46134 = true then (laws_FnExactHopelessSquares.j1 kj10 t46109 t46112 t46120 (t46123 != t46112) a0_0 a0_1 a0_2 l0_3) else (laws_FnExactHopelessSquares.j1 kj10 t46109 t46112 t46120 true a0_0 a0_1 a0_2 l0_3)))) = some r := H
      have A36 := Aside0.mk A360
      clear A360
      have HC37 := Aside0.mk H
      clear H
      try go_wp2
      have n0_ := Aside0.mk (Kd.R_drew HO_4.out)
      have n1_ := Aside0.mk (Kd.R_drew HO_7.out)
      have n2_ := Aside0.mk (Kd.R_drew HO_46120003.out)
      have n3_ := Aside0.mk (blk_drew BK46101.out)
      have n4_ := Aside0.mk (blk_drew BK46119.out)
      have n5_ := Aside0.mk (below_drew1 HB.out)
      clear HO_4
      clear HO_7
      clear HO_46120003
      clear BK46101
      clear BK46119
      clear HB
      have HO_4 := n0_
      have HO_7 := n1_
      have HO_46120003 := n2_
      have BK46101 := n3_
      have BK46119 := n4_
      have HB := n5_
      clear n0_ n1_ n2_ n3_ n4_ n5_
      refine start_ (n := 5) (S := fun w' => w'.cell? ⟨gb46119, 0, none⟩ = some (.int .i64 t46113) ∧ w'.cell? ⟨gb46119, 1, none⟩ = some (.int .i64 t46114) ∧ w'.cell? ⟨gb46119, 2, none⟩ = some (.int .i64 t46115) ∧ w'.cell? ⟨gb46119, 3, none⟩ = some (.slice Ao24 t46116.length co24) ∧ w'.cell? ⟨gb46101, 0, none⟩ = some (.int .i64 a0_0) ∧ w'.cell? ⟨gb46101, 1, none⟩ = some (.int .i64 a0_1) ∧ w'.cell? ⟨gb46101, 2, none⟩ = some (.int .i64 a0_2) ∧ w'.cell? ⟨gb46101, 3, none⟩ = some (.slice A0_3 l0_3.length c0_3)) (ds := []) #[false, false, false, false, false] (by kernel_rfl) rfl rfl ⟨(blk_cell BK46119.out 0).trans rfl, (blk_cell BK46119.out 1).trans rfl, (blk_cell BK46119.out 2).trans rfl, (blk_cell BK46119.out 3).trans rfl, (blk_cell BK46101.out 0).trans rfl, (blk_cell BK46101.out 1).trans rfl, (blk_cell BK46101.out 2).trans rfl, (blk_cell BK46101.out 3).trans rfl⟩ (fun hHeld => ?_)
      generalize wc.drew = w38 at HO_4 HO_7 HO_46120003 BK46101 BK46119 HB hHeld ⊢
      refine take_ (i := 0) (N := some 41) (v := ?_) (a' := ?_) #[true, false, false, false, false] rfl rfl (by kernel_rfl) (fun _ _ _ h => h) (Or.inl ⟨by rfl, ?_⟩) hHeld ?_ ?_
      rotate_left
      ·rintro w' ⟨s0, s1, s2, s3, s4, s5, s6, s7⟩
       go_simp
       with_reducible rfl
      rotate_left
      ·simp only [Act.put, List.setIfInBounds_toArray, List.set_cons_zero, List.set_cons_succ, i64_w, i32_w]
       rfl
      refine take_ (i := 1) (N := some 42) (v := ?_) (a' := ?_) #[true, true, false, false, false] rfl rfl (by kernel_rfl) (fun _ _ _ h => h) (Or.inl ⟨by rfl, ?_⟩) hHeld ?_ ?_
      rotate_left
      ·rintro w' ⟨s0, s1, s2, s3, s4, s5, s6, s7⟩
       go_simp
       with_reducible rfl
      rotate_left
      ·simp only [Act.put, List.setIfInBounds_toArray, List.set_cons_zero, List.set_cons_succ, i64_w, i32_w]
       rfl
      refine one_ (i := 2) (N := some 43) #[true, true, true, false, false] rfl rfl (by kernel_rfl) (by decide) (fun K hK => ?_)
      refine goes_ Try.func39 (by kernel_rfl) rfl #[.agg #[.int .i64 a0_0, .int .i64 a0_1, .int .i64 a0_2, .slice A0_3 l0_3.length c0_3]] (by rfl) rfl rfl (by (try simp only [List.map_toArray, List.map_cons, List.map_nil]); first | done | rfl | (simp only [List.length_drop, List.length_take]; rfl)) ?_
      with_reducible refine (laws_toBoard.calls kj10 a0_0 a0_1 a0_2 _ _ l0_3 t46125 t46126 t46127 t46128 _ ?side1 ?side2 A33.out).mono ?_
      (case side1 => repeat (first | exact (Kd.C_below HR0_3.out HB.out) | (with_reducible refine Kd.C_alloc ?_ _) | (with_reducible refine Kd.C_drewN ?_ _) | (with_reducible refine Kd.C_drew ?_)))
      (case side2 => exact HC0_3.out)
      rintro e w39 ⟨v46129, rfl, ho0, hb⟩
      refine ⟨_, rfl, ?_⟩
      have n0_ := Aside0.mk (Kd.R_below (by (with_reducible repeat (first | apply Kd.R_alloc | apply Kd.R_drewN | apply Kd.R_drew)); exact HO_4.out) hb)
      have n1_ := Aside0.mk (Kd.R_below (by (with_reducible repeat (first | apply Kd.R_alloc | apply Kd.R_drewN | apply Kd.R_drew)); exact HO_7.out) hb)
      have n2_ := Aside0.mk (Kd.R_elder' (by (with_reducible repeat (first | apply Kd.R_alloc | apply Kd.R_drewN | apply Kd.R_drew)); exact HO_46120003.out) (Kd.R_base ho0) hb)
      have n3_ := Aside0.mk (Kd.R_lower (Kd.R_new' ho0 (Kd.R_lt (by (with_reducible repeat (first | apply Kd.R_alloc | apply Kd.R_drewN | apply Kd.R_drew)); exact HO_46120003.out))) (below_size (by repeat (first | (with_reducible first | exact HB.out | apply below_alloc | apply pw_below_drewN | apply below_drew1 | refine below_set ?_ GE46101.out | refine below_set ?_ GE46119.out) | exact HB.out))))
      have n4_ := Aside0.mk (blk_below (g := gb46101) (o := .cells #[.int .i64 a0_0, .int .i64 a0_1, .int .i64 a0_2, .slice A0_3 l0_3.length c0_3] 24 (0, 0)) (by (with_reducible repeat (first | refine blk_drewN ?_ _ | refine blk_drew ?_ | refine blk_alloc ?_ _)); exact BK46101.out) hb)
      have n5_ := Aside0.mk (blk_below (g := gb46119) (o := .cells #[.int .i64 t46113, .int .i64 t46114, .int .i64 t46115, .slice Ao24 t46116.length co24] 32 (0, 0)) (by (with_reducible repeat (first | refine blk_drewN ?_ _ | refine blk_drew ?_ | refine blk_alloc ?_ _)); exact BK46119.out) hb)
      have n6_ := Aside0.mk (below_step (by repeat (first | (with_reducible first | exact HB.out | apply below_alloc | apply pw_below_drewN | apply below_drew1 | refine below_set ?_ GE46101.out | refine below_set ?_ GE46119.out) | exact HB.out)) hb)
      clear HO_4
      clear HO_7
      clear HO_46120003
      clear BK46101
      clear BK46119
      clear HB
      have HO_4 := n0_
      have HO_7 := n1_
      have HO_46120003 := n2_
      have HO46130 := n3_
      have BK46101 := n4_
      have BK46119 := n5_
      have HB := n6_
      clear n0_ n1_ n2_ n3_ n4_ n5_ n6_
      (try clear hb)
      (try clear hb2)
      (try clear hk)
      (try clear hi)
      (try clear ho0)
      obtain ⟨Ao40, co40, eo40⟩ := Kd.R_slice HO46130.out
      (first | subst eo40 | (injection eo40 with f1_ f2_ f3_; have f4_ := f1_.symm; have f5_ := f3_.symm; clear f1_ f2_ f3_; subst f4_; subst f5_))
      refine hK.out _ _ ⟨(blk_cell BK46119.out 0).trans rfl, (blk_cell BK46119.out 1).trans rfl, (blk_cell BK46119.out 2).trans rfl, (blk_cell BK46119.out 3).trans rfl, (blk_cell BK46101.out 0).trans rfl, (blk_cell BK46101.out 1).trans rfl, (blk_cell BK46101.out 2).trans rfl, (blk_cell BK46101.out 3).trans rfl⟩ (fun hHeld => ?_)
      clear hK K
      refine norm_ (a' := ?_) ?_ ?_
      rotate_left
      ·show Act.put _ (some 43) _ = _
       simp only [Act.put, List.setIfInBounds_toArray, List.set_cons_zero, List.set_cons_succ, i64_w, i32_w]
       rfl
      refine one_ (i := 3) (N := some 44) #[true, true, true, true, false] rfl rfl (by kernel_rfl) (by decide) (fun K hK => ?_)
      refine goes_ Try.func42 (by kernel_rfl) rfl #[.agg #[.int .i64 t46113, .int .i64 t46114, .int .i64 t46115, .slice Ao24 t46116.length co24], .agg #[.int .i64 t46125, .int .i64 t46126, .int .i64 t46127, .slice Ao40 t46128.length co40]] (by rfl) rfl rfl (by (try simp only [List.map_toArray, List.map_cons, List.map_nil]); first | done | rfl | (simp only [List.length_drop, List.length_take]; rfl)) ?_
      with_reducible refine (laws_eqBoard.calls kj10 t46113 t46114 t46115 _ _ t46116 t46125 t46126 t46127 _ _ t46128 true _ ?side1 ?side2 ?side3 ?side4 A34.out).mono ?_
      (case side1 => repeat (first | exact (Kd.R_reads' HO_46120003.out).2.2 | (with_reducible refine Kd.C_alloc ?_ _) | (with_reducible refine Kd.C_drewN ?_ _) | (with_reducible refine Kd.C_drew ?_)))
      (case side2 => exact (Kd.R_reads' HO_46120003.out).2.1)
      (case side3 => repeat (first | exact (Kd.R_reads' HO46130.out).2.2 | (with_reducible refine Kd.C_alloc ?_ _) | (with_reducible refine Kd.C_drewN ?_ _) | (with_reducible refine Kd.C_drew ?_)))
      (case side4 => exact (Kd.R_reads' HO46130.out).2.1)
      rintro e w41 ⟨rfl, hb⟩
      refine ⟨_, rfl, ?_⟩
      have n0_ := Aside0.mk (Kd.R_below (by (with_reducible repeat (first | apply Kd.R_alloc | apply Kd.R_drewN | apply Kd.R_drew)); exact HO_4.out) hb)
      have n1_ := Aside0.mk (Kd.R_below (by (with_reducible repeat (first | apply Kd.R_alloc | apply Kd.R_drewN | apply Kd.R_drew)); exact HO_7.out) hb)
      have n2_ := Aside0.mk (Kd.R_below (by (with_reducible repeat (first | apply Kd.R_alloc | apply Kd.R_drewN | apply Kd.R_drew)); exact HO_46120003.out) hb)
      have n3_ := Aside0.mk (Kd.R_below (by (with_reducible repeat (first | apply Kd.R_alloc | apply Kd.R_drewN | apply Kd.R_drew)); exact HO46130.out) hb)
      have n4_ := Aside0.mk (blk_below (g := gb46101) (o := .cells #[.int .i64 a0_0, .int .i64 a0_1, .int .i64 a0_2, .slice A0_3 l0_3.length c0_3] 24 (0, 0)) (by (with_reducible repeat (first | refine blk_drewN ?_ _ | refine blk_drew ?_ | refine blk_alloc ?_ _)); exact BK46101.out) hb)
      have n5_ := Aside0.mk (blk_below (g := gb46119) (o := .cells #[.int .i64 t46113, .int .i64 t46114, .int .i64 t46115, .slice Ao24 t46116.length co24] 32 (0, 0)) (by (with_reducible repeat (first | refine blk_drewN ?_ _ | refine blk_drew ?_ | refine blk_alloc ?_ _)); exact BK46119.out) hb)
      have n6_ := Aside0.mk (below_step (by repeat (first | (with_reducible first | exact HB.out | apply below_alloc | apply pw_below_drewN | apply below_drew1 | refine below_set ?_ GE46101.out | refine below_set ?_ GE46119.out) | exact HB.out)) hb)
      clear HO_4
      clear HO_7
      clear HO_46120003
      clear HO46130
      clear BK46101
      clear BK46119
      clear HB
      have HO_4 := n0_
      have HO_7 := n1_
      have HO_46120003 := n2_
      have HO46130 := n3_
      have BK46101 := n4_
      have BK46119 := n5_
      have HB := n6_
      clear n0_ n1_ n2_ n3_ n4_ n5_ n6_
      (try clear hb)
      (try clear hb2)
      (try clear hk)
      (try clear hi)
      refine hK.out _ _ ⟨(blk_cell BK46119.out 0).trans rfl, (blk_cell BK46119.out 1).trans rfl, (blk_cell BK46119.out 2).trans rfl, (blk_cell BK46119.out 3).trans rfl, (blk_cell BK46101.out 0).trans rfl, (blk_cell BK46101.out 1).trans rfl, (blk_cell BK46101.out 2).trans rfl, (blk_cell BK46101.out 3).trans rfl⟩ (fun hHeld => ?_)
      clear hK K
      refine norm_ (a' := ?_) ?_ ?_
      rotate_left
      ·show Act.put _ (some 44) _ = _
       simp only [Act.put, List.setIfInBounds_toArray, List.set_cons_zero, List.set_cons_succ, i64_w, i32_w]
       rfl
      refine pure_ (i := 4) (N := some 45) (v := ?_) (a' := ?_) #[true, true, true, true, true] rfl rfl (by kernel_rfl) (fun _ _ _ h => h) (Or.inl ⟨by rfl, ?_⟩) ?_ ?_
      rotate_left
      ·intro w'
       go_simp
       with_reducible rfl
      rotate_left
      ·simp only [Act.put, List.setIfInBounds_toArray, List.set_cons_zero, List.set_cons_succ, i64_w, i32_w]
       rfl
      refine done_ (by kernel_rfl) ?_
      have hnb42 := NB46119_46101.out
      have hnc42 := NB46101_46119.out
      have hcz43_0 : w41.cell? ⟨gb46119, 0, none⟩ = some (.int .i64 t46113) := (blk_cell BK46119.out 0).trans rfl
      have hcz43_1 : w41.cell? ⟨gb46119, 1, none⟩ = some (.int .i64 t46114) := (blk_cell BK46119.out 1).trans rfl
      have hcz43_2 : w41.cell? ⟨gb46119, 2, none⟩ = some (.int .i64 t46115) := (blk_cell BK46119.out 2).trans rfl
      have hcz43_3 : w41.cell? ⟨gb46119, 3, none⟩ = some (.slice Ao24 t46116.length co24) := (blk_cell BK46119.out 3).trans rfl
      have hfz43_0 := blk_frozen BK46119.out 0
      have hfz43_1 := blk_frozen BK46119.out 1
      have hfz43_2 := blk_frozen BK46119.out 2
      have hfz43_3 := blk_frozen BK46119.out 3
      go_upto_region 14 with (first | ((with_reducible refine gate_callee (f := 47) rfl ?_); refine goesL_ (some 48) rfl rfl Try.func47 (by kernel_rfl) rfl #[.agg #[.int .i64 t46113, .int .i64 t46114, .int .i64 t46115, .slice Ao24 t46116.length co24], .int .i64 1] rfl (by (try simp only [List.map_toArray, List.map_cons, List.map_nil]); first | done | rfl | (simp only [List.length_drop, List.length_take]; rfl)) ?_; (with_reducible refine (laws_markBoard.calls kj10 t46113 t46114 t46115 (fun k_ => some k_ = (.slice Ao24 t46116.length co24 : Value).ownBlock) (.slice Ao24 t46116.length co24) t46116 1 t46132 t46133 w _ ?side1 ?side2 A36.out).mono ?_); (case side1 => repeat (first | (with_reducible first | exact HB.out | apply below_alloc | apply pw_below_drewN | apply below_drew1 | refine below_set ?_ GE46101.out | refine below_set ?_ GE46119.out) | exact HB.out)); (case side2 => exact Kd.R_tight rfl HO_46120003.out); rintro e w44 ⟨rfl, hy0, hb, hkp⟩; refine ⟨_, rfl, ?_⟩; have n0_ := Aside0.mk (Kd.R_mono (ok' := fun k_ => some k_ ≠ (v46121 : Value).ownBlock) (Kd.R_keptB ((Kd.R_apart' HO_4.out (Kd.R_typed HO_46120003.out) (by decide))) hkp (fun k_ hk_ hs_ => (hk_.2) hs_)) (fun k_ hk_ => hk_.1.1)); have n1_ := Aside0.mk (Kd.R_mono (ok' := fun k_ => some k_ ≠ (v46110 : Value).ownBlock) (Kd.R_keptB ((Kd.R_apart' HO_7.out (Kd.R_typed HO_46120003.out) (by decide))) hkp (fun k_ hk_ hs_ => (hk_.2) hs_)) (fun k_ hk_ => hk_.1.1)); have n2_ := Aside0.mk (Kd.R_reok rfl hy0 (fun k_ e_ => HO_46120003.out.1 k_ e_)); have n3_ := Aside0.mk (blk_kept (by (with_reducible repeat (first | refine blk_drewN ?_ _ | refine blk_drew ?_ | refine blk_alloc ?_ _)); exact BK46101.out) hkp (fun hs_ => (fun e_ => (Kd.R_ne HO_46120003.out BK46101.out (by decide)) e_) hs_)); have n4_ := Aside0.mk (blk_kept (by (with_reducible repeat (first | refine blk_drewN ?_ _ | refine blk_drew ?_ | refine blk_alloc ?_ _)); exact BK46119.out) hkp (fun hs_ => (fun e_ => (Kd.R_ne HO_46120003.out BK46119.out (by decide)) e_) hs_)); have n5_ := Aside0.mk (Kd.R_mono (ok' := fun k_ => some k_ ≠ (.slice Ao24 t46116.length co24 : Value).ownBlock) (Kd.R_keptB (HO46130.out) hkp (fun k_ hk_ hs_ => (hk_.2) hs_)) (fun k_ hk_ => hk_.1.2)); have n6_ := Aside0.mk (hb); clear HO_4; clear HO_7; clear HO_46120003; clear BK46101; clear BK46119; clear HO46130; clear HB; have HO_4 := n0_; have HO_7 := n1_; have HO_46120003 := n2_; have BK46101 := n3_; have BK46119 := n4_; have HO46130 := n5_; have HB := n6_; clear n0_ n1_ n2_ n3_ n4_ n5_ n6_; (try clear hb); (try clear hkp); (try clear hy0)))
      (try simp only [Act.put, List.setIfInBounds_toArray, List.set_cons_zero, List.set_cons_succ])
      go_cut [61] (fun v61 wc => ∃ (kq : Nat) (x61_36 : Bool), v61 = .bool x61_36 ∧ Aside0 (laws_FnExactHopelessSquares.j1 kq t46109 t46112 t46120 x61_36 a0_0 a0_1 a0_2 l0_3 = some r) ∧ Aside0 (kq ≤ kj10) ∧ Aside0 (Kd.R (Kd.int .i64) 3 wc w.heap.size (fun k_ => some k_ ≠ (v46121 : Value).ownBlock) v46110 t46109) ∧ Aside0 (Kd.R (Kd.int .i64) 3 wc w.heap.size (fun k_ => some k_ ≠ (v46110 : Value).ownBlock) v46121 t46120) ∧ Aside0 (Kd.R k27 27 wc w.heap.size (fun _ => True) (.slice Ao24 t46116.length co24) t46133) ∧ Aside0 (wc.heap[gb46101]? = some (.cells #[.int .i64 a0_0, .int .i64 a0_1, .int .i64 a0_2, (.slice A0_3 l0_3.length c0_3)] 24 (0, 0))) ∧ Aside0 (wc.heap[gb46119]? = some (.cells #[.int .i64 t46113, .int .i64 t46114, .int .i64 t46115, (.slice Ao24 t46116.length co24)] 32 (0, 0))) ∧ Aside0 (Below w.heap.size w wc))
      case first =>
       have H := HC37.out
       clear HC37
       by_cases c45 : t46132 < 0
       ·rw [if_pos c45] at H
        have c45b0 : decide (t46132 < 0) = true := decide_eq_true c45
        clear c45
        (first | rw [c45b0] | (simp only [i64_w, i32_w]; rw [c45b0]) | skip)
        have H' := Aside0.mk H
        clear H
        go_wp2
        go_meet
        case rel => exact ⟨_, (true), (by first | rfl | (simp; done) | (simp [*]; done)), H', ⟨by have := HJ10.out; first | omega | exact Nat.le_refl _⟩, ⟨by (with_reducible repeat (first | apply Kd.R_alloc | apply Kd.R_drewN | apply Kd.R_drew)); exact HO_4.out⟩, ⟨by (with_reducible repeat (first | apply Kd.R_alloc | apply Kd.R_drewN | apply Kd.R_drew)); exact HO_7.out⟩, ⟨by (with_reducible repeat (first | apply Kd.R_alloc | apply Kd.R_drewN | apply Kd.R_drew)); exact Kd.R_mono HO_46120003.out (fun _ hk => trivial)⟩, ⟨by (with_reducible repeat (first | refine blk_drewN ?_ _ | refine blk_drew ?_ | refine blk_alloc ?_ _)); exact BK46101.out⟩, ⟨by (with_reducible repeat (first | refine blk_drewN ?_ _ | refine blk_drew ?_ | refine blk_alloc ?_ _)); exact BK46119.out⟩, ⟨by repeat (first | (with_reducible first | exact HB.out | apply below_alloc | apply pw_below_drewN | apply below_drew1 | refine below_set ?_ GE46101.out | refine below_set ?_ GE46119.out) | exact HB.out)⟩⟩
       ·rw [if_neg c45] at H
        have c45b0 : decide (t46132 < 0) = false := decide_eq_false c45
        clear c45
        (first | rw [c45b0] | (simp only [i64_w, i32_w]; rw [c45b0]) | skip)
        replace H := Option.bind_eq_some_iff.mp H
        obtain ⟨t46134, A460, H⟩ := H
        replace H : (if t46134 = true then (laws_FnExactHopelessSquares.j1 kj10 t46109 t46112 t46120 (t46123 != t46112) a0_0 a0_1 a0_2 l0_3) else (laws_FnExactHopelessSquares.j1 kj10 t46109 t46112 t46120 true a0_0 a0_1 a0_2 l0_3)) = some r := H
        have A46 := Aside0.mk A460
        clear A460
        by_cases c47 : t46134 = true
        ·subst c47
         have H1 : (laws_FnExactHopelessSquares.j1 kj10 t46109 t46112 t46120 (t46123 != t46112) a0_0 a0_1 a0_2 l0_3) = some r := by rw [if_pos rfl] at H; exact H
         clear H
         have H := H1
         clear H1
         have H' := Aside0.mk H
         clear H
         obtain ⟨Ao48, co48, eo48⟩ := Kd.R_slice HO_7.out
         subst eo48
         obtain ⟨Ao49, co49, eo49⟩ := Kd.R_slice HO_4.out
         subst eo49
         go_wp2_with (first | (go_at_call 67; (with_reducible refine (laws_eqIntS.calls kj10 _ _ t46120 _ _ t46109 true _ ?side1 ?side2 ?side3 ?side4 A46.out).mono ?_); (case side1 => repeat (first | exact (Kd.R_reads' HO_7.out).2.2 | (with_reducible refine Kd.C_alloc ?_ _) | (with_reducible refine Kd.C_drewN ?_ _) | (with_reducible refine Kd.C_drew ?_))); (case side2 => exact (Kd.R_reads' HO_7.out).2.1); (case side3 => repeat (first | exact (Kd.R_reads' HO_4.out).2.2 | (with_reducible refine Kd.C_alloc ?_ _) | (with_reducible refine Kd.C_drewN ?_ _) | (with_reducible refine Kd.C_drew ?_))); (case side4 => exact (Kd.R_reads' HO_4.out).2.1); rintro e w' ⟨rfl, ⟨nd, rfl⟩⟩))
         go_meet
         case rel => exact ⟨_, ((t46123 != t46112)), (by first | rfl | (simp; done) | (simp [*]; done)), H', ⟨by have := HJ10.out; first | omega | exact Nat.le_refl _⟩, ⟨by (with_reducible repeat (first | apply Kd.R_alloc | apply Kd.R_drewN | apply Kd.R_drew)); exact HO_4.out⟩, ⟨by (with_reducible repeat (first | apply Kd.R_alloc | apply Kd.R_drewN | apply Kd.R_drew)); exact HO_7.out⟩, ⟨by (with_reducible repeat (first | apply Kd.R_alloc | apply Kd.R_drewN | apply Kd.R_drew)); exact Kd.R_mono HO_46120003.out (fun _ hk => trivial)⟩, ⟨by (with_reducible repeat (first | refine blk_drewN ?_ _ | refine blk_drew ?_ | refine blk_alloc ?_ _)); exact BK46101.out⟩, ⟨by (with_reducible repeat (first | refine blk_drewN ?_ _ | refine blk_drew ?_ | refine blk_alloc ?_ _)); exact BK46119.out⟩, ⟨by repeat (first | (with_reducible first | exact HB.out | apply below_alloc | apply pw_below_drewN | apply below_drew1 | refine below_set ?_ GE46101.out | refine below_set ?_ GE46119.out) | exact HB.out)⟩⟩
        ·replace c47 := Bool.eq_false_iff.mpr c47
         subst c47
         have H1 : (laws_FnExactHopelessSquares.j1 kj10 t46109 t46112 t46120 true a0_0 a0_1 a0_2 l0_3) = some r := by rw [if_neg (show ¬ (false = true) by decide)] at H; exact H
         clear H
         have H := H1
         clear H1
         have H' := Aside0.mk H
         clear H
         obtain ⟨Ao50, co50, eo50⟩ := Kd.R_slice HO_7.out
         subst eo50
         obtain ⟨Ao51, co51, eo51⟩ := Kd.R_slice HO_4.out
         subst eo51
         go_wp2_with (first | (go_at_call 67; (with_reducible refine (laws_eqIntS.calls kj10 _ _ t46120 _ _ t46109 false _ ?side1 ?side2 ?side3 ?side4 A46.out).mono ?_); (case side1 => repeat (first | exact (Kd.R_reads' HO_7.out).2.2 | (with_reducible refine Kd.C_alloc ?_ _) | (with_reducible refine Kd.C_drewN ?_ _) | (with_reducible refine Kd.C_drew ?_))); (case side2 => exact (Kd.R_reads' HO_7.out).2.1); (case side3 => repeat (first | exact (Kd.R_reads' HO_4.out).2.2 | (with_reducible refine Kd.C_alloc ?_ _) | (with_reducible refine Kd.C_drewN ?_ _) | (with_reducible refine Kd.C_drew ?_))); (case side4 => exact (Kd.R_reads' HO_4.out).2.1); rintro e w' ⟨rfl, ⟨nd, rfl⟩⟩))
         go_meet
         case rel => exact ⟨_, (true), (by first | rfl | (simp; done) | (simp [*]; done)), H', ⟨by have := HJ10.out; first | omega | exact Nat.le_refl _⟩, ⟨by (with_reducible repeat (first | apply Kd.R_alloc | apply Kd.R_drewN | apply Kd.R_drew)); exact HO_4.out⟩, ⟨by (with_reducible repeat (first | apply Kd.R_alloc | apply Kd.R_drewN | apply Kd.R_drew)); exact HO_7.out⟩, ⟨by (with_reducible repeat (first | apply Kd.R_alloc | apply Kd.R_drewN | apply Kd.R_drew)); exact Kd.R_mono HO_46120003.out (fun _ hk => trivial)⟩, ⟨by (with_reducible repeat (first | refine blk_drewN ?_ _ | refine blk_drew ?_ | refine blk_alloc ?_ _)); exact BK46101.out⟩, ⟨by (with_reducible repeat (first | refine blk_drewN ?_ _ | refine blk_drew ?_ | refine blk_alloc ?_ _)); exact BK46119.out⟩, ⟨by repeat (first | (with_reducible first | exact HB.out | apply below_alloc | apply pw_below_drewN | apply below_drew1 | refine below_set ?_ GE46101.out | refine below_set ?_ GE46119.out) | exact HB.out)⟩⟩
      case rest =>
       clear HC37
       try clear c2
       try clear p2
       try clear c3
       try clear c3b0
       try clear c4
       try clear c6
       try clear c9
       try clear c22
       try clear c23
       try clear c27
       try clear c32
       try clear c35
       try clear c37
       try clear c39
       try clear c42
       try clear c45
       try clear c45b0
       try clear c47
       try clear hcz13_0
       try clear hcz13_1
       try clear hcz13_2
       try clear hcz13_3
       try clear hcz15_0
       try clear hcz15_1
       try clear hcz15_2
       try clear hcz15_3
       try clear hcz19_0
       try clear hcz19_1
       try clear hcz19_2
       try clear hcz19_3
       try clear hcz23_0
       try clear hcz23_1
       try clear hcz23_2
       try clear hcz23_3
       try clear hcz43_0
       try clear hcz43_1
       try clear hcz43_2
       try clear hcz43_3
       try clear hcz5_0
       try clear hcz5_1
       try clear hcz5_2
       try clear hcz5_3
       try clear hfz13_0
       try clear hfz13_1
       try clear hfz13_2
       try clear hfz13_3
       try clear hfz15_0
       try clear hfz15_1
       try clear hfz15_2
       try clear hfz15_3
       try clear hfz19_0
       try clear hfz19_1
       try clear hfz19_2
       try clear hfz19_3
       try clear hfz23_0
       try clear hfz23_1
       try clear hfz23_2
       try clear hfz23_3
       try clear hfz43_0
       try clear hfz43_1
       try clear hfz43_2
       try clear hfz43_3
       try clear hfz5_0
       try clear hfz5_1
       try clear hfz5_2
       try clear hfz5_3
       try clear p2
       obtain ⟨kq, x61_36, rfl, HA, HJ36, HO_4, HO_7, HO_46120003, BK46101, BK46119, HB⟩ := hcut
       have hl46120003_36 := (Kd.R_reads' HO_46120003.out).1
       rw [hl46120003_36] at HO_46120003
       (try simp only [hl46120003_36])
       (try simp only [hl46120003_36] at BK46101)
       (try simp only [hl46120003_36] at BK46119)
       (try simp only [hl46120003_36] at HO_4)
       (try simp only [hl46120003_36] at HO_7)
       cases kq with
       | zero => exact absurd HA.out (by simp [laws_FnExactHopelessSquares.j1])
       | succ kj36 =>
        have H := HA.out
        clear HA
        simp only [laws_FnExactHopelessSquares.j1] at H
        by_cases c52 : x61_36 = true
        ·subst c52
         have H1 : (some false) = some r := by rw [if_pos rfl] at H; exact H
         clear H
         have H := H1
         clear H1
         obtain rfl := Option.some.inj H
         go_wp2
         go_ret
         exact ⟨by first | rfl | (simp [errW_none, errW_some] <;> rfl) | (simp [*, errW_none, errW_some] <;> rfl), by repeat (first | (with_reducible first | exact HB.out | apply below_alloc | apply pw_below_drewN | apply below_drew1 | refine below_set ?_ GE46101.out | refine below_set ?_ GE46119.out) | exact HB.out)⟩
        ·replace c52 := Bool.eq_false_iff.mpr c52
         subst c52
         have H1 : ((laws_markIntS.f kj36 t46120 1).bind fun bt46135 => ((laws_heldIntS.f kj36 bt46135.2 1).bind fun t46137 => (if t46137 < 0 then (some false) else (if t46137 = bt46135.1 then ((laws_toBoard.f kj36 a0_0 a0_1 a0_2 l0_3).bind fun bt46138 => ((impl_HopelessSquares.f kj36 bt46138.1 bt46138.2.1 bt46138.2.2.1 bt46138.2.2.2).bind fun bt46144 => ((laws_eqIntS.f kj36 bt46144.1 t46109).bind fun t46148 => (if t46148 = true then (laws_FnExactHopelessSquares.j2 kj36 bt46135.2 bt46135.1 (bt46144.2 != t46112)) else (laws_FnExactHopelessSquares.j2 kj36 bt46135.2 bt46135.1 true))))) else (some false))))) = some r := by rw [if_neg (show ¬ (false = true) by decide)] at H; exact H
         clear H
         have H := H1
         clear H1
         replace H := Option.bind_eq_some_iff.mp H
         obtain ⟨⟨t46135, t46136⟩, A530, H⟩ := H
         replace H : ((laws_heldIntS.f kj36 t46136 1).bind fun t46137 => (if t46137 < 0 then (some false) else (if t46137 = t46135 then ((laws_toBoard.f kj36 a0_0 a0_1 a0_2 l0_3).bind fun bt46138 => ((impl_HopelessSquares.f kj36 bt46138.1 bt46138.2.1 bt46138.2.2.1 bt46138.2.2.2).bind fun bt46144 => ((laws_eqIntS.f kj36 bt46144.1 t46109).bind fun t46148 => (if t46148 = true then (laws_FnExactHopelessSquares.j2 kj36 t46136 t46135 (bt46144.2 != t46112)) else (laws_FnExactHopelessSquares.j2 kj36 t46136 t46135 true))))) else (some false)))) = some r := H
         have A53 := Aside0.mk A530
         clear A530
         replace H := Option.bind_eq_some_iff.mp H
         obtain ⟨t46137, A540, H⟩ := H
         replace H : (if t46137 < 0 then (some false) else (if t46137 = t46135 then ((laws_toBoard.f kj36 a0_0 a0_1 a0_2 l0_3).bind fun bt46138 => ((impl_HopelessSquares.f kj36 bt46138.1 bt46138.2.1 bt46138.2.2.1 bt46138.2.2.2).bind fun bt46144 => ((laws_eqIntS.f kj36 bt46144.1 t46109).bind fun t46148 => (if t46148 = true then (laws_FnExactHopelessSquares.j2 kj36 t46136 t46135 (bt46144.2 != t46112)) else (laws_FnExactHopelessSquares.j2 kj36 t46136 t46135 true))))) else (some false))) = some r := H
         have A54 := Aside0.mk A540
         clear A540
         by_cases c55 : t46137 < 0
         ·rw [if_pos c55] at H
          have c55b0 : decide (t46137 < 0) = true := decide_eq_true c55
          clear c55
          obtain rfl := Option.some.inj H
          obtain ⟨Ao56, co56, eo56⟩ := Kd.R_slice HO_7.out
          subst eo56
          go_wp2_with (first | ((with_reducible refine gate_callee (f := 68) rfl ?_); refine goesL_ (some 64) rfl rfl Try.func68 (by kernel_rfl) rfl #[.slice Ao56 t46120.length co56, .int .i64 1] rfl (by (try simp only [List.map_toArray, List.map_cons, List.map_nil]); first | done | rfl | (simp only [List.length_drop, List.length_take]; rfl)) ?_; (with_reducible refine (laws_markIntS.calls kj36 (fun k_ => some k_ = (.slice Ao56 t46120.length co56 : Value).ownBlock) (.slice Ao56 t46120.length co56) t46120 1 t46135 t46136 w _ ?side1 ?side2 A53.out).mono ?_); (case side1 => repeat (first | (with_reducible first | exact HB.out | apply below_alloc | apply pw_below_drewN | apply below_drew1 | refine below_set ?_ GE46101.out | refine below_set ?_ GE46119.out) | exact HB.out)); (case side2 => exact Kd.R_tight rfl HO_7.out); rintro e w57 ⟨rfl, hy0, hb, hkp⟩; refine ⟨_, rfl, ?_⟩; have n0_ := Aside0.mk (Kd.R_mono (ok' := fun k_ => some k_ ≠ (.slice Ao56 t46120.length co56 : Value).ownBlock) (Kd.R_keptB (HO_4.out) hkp (fun k_ hk_ hs_ => (hk_) hs_)) (fun k_ hk_ => hk_.1)); have n1_ := Aside0.mk (Kd.R_reok rfl hy0 (fun k_ e_ => HO_7.out.1 k_ e_)); have n2_ := Aside0.mk (Kd.R_mono (ok' := fun k_ => True) (Kd.R_keptB ((Kd.R_apart' HO_46120003.out (Kd.R_typed HO_7.out) (by decide))) hkp (fun k_ hk_ hs_ => (hk_.2) hs_)) (fun k_ hk_ => trivial)); have n3_ := Aside0.mk (blk_kept (by (with_reducible repeat (first | refine blk_drewN ?_ _ | refine blk_drew ?_ | refine blk_alloc ?_ _)); exact BK46101.out) hkp (fun hs_ => (fun e_ => (Kd.R_ne HO_7.out BK46101.out (by decide)) e_) hs_)); have n4_ := Aside0.mk (blk_kept (by (with_reducible repeat (first | refine blk_drewN ?_ _ | refine blk_drew ?_ | refine blk_alloc ?_ _)); exact BK46119.out) hkp (fun hs_ => (fun e_ => (Kd.R_ne HO_7.out BK46119.out (by decide)) e_) hs_)); have n5_ := Aside0.mk (hb); clear HO_4; clear HO_7; clear HO_46120003; clear BK46101; clear BK46119; clear HB; have HO_4 := n0_; have HO_7 := n1_; have HO_46120003 := n2_; have BK46101 := n3_; have BK46119 := n4_; have HB := n5_; clear n0_ n1_ n2_ n3_ n4_ n5_; (try clear hb); (try clear hkp); (try clear hy0)) | ((with_reducible refine gate_callee (f := 69) rfl ?_); refine goesL_ (some 67) rfl rfl Try.func69 (by kernel_rfl) rfl #[.slice Ao56 t46136.length co56, .int .i64 1] rfl (by (try simp only [List.map_toArray, List.map_cons, List.map_nil]); first | done | (rw [show t46136.length = t46120.length from (Kd.R_reads' HO_7.out).1.symm] <;> rfl) | rfl | (simp only [List.length_drop, List.length_take]; rfl)) ?_; (with_reducible refine (laws_heldIntS.calls kj36 _ _ t46136 1 t46137 _ ?side1 ?side2 A54.out).mono ?_); (case side1 => repeat (first | exact (Kd.R_reads' HO_7.out).2.2 | (with_reducible refine Kd.C_alloc ?_ _) | (with_reducible refine Kd.C_drewN ?_ _) | (with_reducible refine Kd.C_drew ?_))); (case side2 => rw [show t46136.length = t46120.length from (Kd.R_reads' HO_7.out).1.symm]; exact (Kd.R_reads' HO_7.out).2.1); rintro e w' ⟨rfl, ⟨nd, rfl⟩⟩; refine ⟨_, rfl, ?_⟩))
          go_ret
          exact ⟨by first | rfl | (simp [errW_none, errW_some] <;> rfl) | (simp [*, errW_none, errW_some] <;> rfl), by repeat (first | (with_reducible first | exact HB.out | apply below_alloc | apply pw_below_drewN | apply below_drew1 | refine below_set ?_ GE46101.out | refine below_set ?_ GE46119.out) | exact HB.out)⟩
         ·rw [if_neg c55] at H
          have c55b0 : decide (t46137 < 0) = false := decide_eq_false c55
          clear c55
          by_cases c58 : t46137 = t46135
          ·rw [if_pos c58] at H
           have c58b0 : (t46137 == t46135) = true := beq_iff_eq.mpr c58
           have c58b1 : (t46137 != t46135) = false := bne_eq_false_iff_eq.mpr c58
           clear c58
           replace H := Option.bind_eq_some_iff.mp H
           obtain ⟨⟨t46138, t46139, t46140, t46141⟩, A590, H⟩ := H
           replace H : ((impl_HopelessSquares.f kj36 t46138 t46139 t46140 t46141).bind fun bt46144 => ((laws_eqIntS.f kj36 bt46144.1 t46109).bind fun t46148 => (if t46148 = true then (laws_FnExactHopelessSquares.j2 kj36 t46136 t46135 (bt46144.2 != t46112)) else (laws_FnExactHopelessSquares.j2 kj36 t46136 t46135 true)))) = some r := H
           have A59 := Aside0.mk A590
           clear A590
           replace H := Option.bind_eq_some_iff.mp H
           obtain ⟨⟨t46144, t46147⟩, A600, H⟩ := H
           replace H : ((laws_eqIntS.f kj36 t46144 t46109).bind fun t46148 => (if t46148 = true then (laws_FnExactHopelessSquares.j2 kj36 t46136 t46135 (t46147 != t46112)) else (laws_FnExactHopelessSquares.j2 kj36 t46136 t46135 true))) = some r := H
           have A60 := Aside0.mk A600
           clear A600
           have HC61 := Aside0.mk H
           clear H
           obtain ⟨Ao62, co62, eo62⟩ := Kd.R_slice HO_7.out
           subst eo62
           go_upto_region 25 with (first | ((with_reducible refine gate_callee (f := 68) rfl ?_); refine goesL_ (some 64) rfl rfl Try.func68 (by kernel_rfl) rfl #[.slice Ao62 t46120.length co62, .int .i64 1] rfl (by (try simp only [List.map_toArray, List.map_cons, List.map_nil]); first | done | rfl | (simp only [List.length_drop, List.length_take]; rfl)) ?_; (with_reducible refine (laws_markIntS.calls kj36 (fun k_ => some k_ = (.slice Ao62 t46120.length co62 : Value).ownBlock) (.slice Ao62 t46120.length co62) t46120 1 t46135 t46136 w _ ?side1 ?side2 A53.out).mono ?_); (case side1 => repeat (first | (with_reducible first | exact HB.out | apply below_alloc | apply pw_below_drewN | apply below_drew1 | refine below_set ?_ GE46101.out | refine below_set ?_ GE46119.out) | exact HB.out)); (case side2 => exact Kd.R_tight rfl HO_7.out); rintro e w63 ⟨rfl, hy0, hb, hkp⟩; refine ⟨_, rfl, ?_⟩; have n0_ := Aside0.mk (Kd.R_mono (ok' := fun k_ => some k_ ≠ (.slice Ao62 t46120.length co62 : Value).ownBlock) (Kd.R_keptB (HO_4.out) hkp (fun k_ hk_ hs_ => (hk_) hs_)) (fun k_ hk_ => hk_.1)); have n1_ := Aside0.mk (Kd.R_reok rfl hy0 (fun k_ e_ => HO_7.out.1 k_ e_)); have n2_ := Aside0.mk (Kd.R_mono (ok' := fun k_ => True) (Kd.R_keptB ((Kd.R_apart' HO_46120003.out (Kd.R_typed HO_7.out) (by decide))) hkp (fun k_ hk_ hs_ => (hk_.2) hs_)) (fun k_ hk_ => trivial)); have n3_ := Aside0.mk (blk_kept (by (with_reducible repeat (first | refine blk_drewN ?_ _ | refine blk_drew ?_ | refine blk_alloc ?_ _)); exact BK46101.out) hkp (fun hs_ => (fun e_ => (Kd.R_ne HO_7.out BK46101.out (by decide)) e_) hs_)); have n4_ := Aside0.mk (blk_kept (by (with_reducible repeat (first | refine blk_drewN ?_ _ | refine blk_drew ?_ | refine blk_alloc ?_ _)); exact BK46119.out) hkp (fun hs_ => (fun e_ => (Kd.R_ne HO_7.out BK46119.out (by decide)) e_) hs_)); have n5_ := Aside0.mk (hb); clear HO_4; clear HO_7; clear HO_46120003; clear BK46101; clear BK46119; clear HB; have HO_4 := n0_; have HO_7 := n1_; have HO_46120003 := n2_; have BK46101 := n3_; have BK46119 := n4_; have HB := n5_; clear n0_ n1_ n2_ n3_ n4_ n5_; (try clear hb); (try clear hkp); (try clear hy0)) | ((with_reducible refine gate_callee (f := 69) rfl ?_); refine goesL_ (some 67) rfl rfl Try.func69 (by kernel_rfl) rfl #[.slice Ao62 t46136.length co62, .int .i64 1] rfl (by (try simp only [List.map_toArray, List.map_cons, List.map_nil]); first | done | (rw [show t46136.length = t46120.length from (Kd.R_reads' HO_7.out).1.symm] <;> rfl) | rfl | (simp only [List.length_drop, List.length_take]; rfl)) ?_; (with_reducible refine (laws_heldIntS.calls kj36 _ _ t46136 1 t46137 _ ?side1 ?side2 A54.out).mono ?_); (case side1 => repeat (first | exact (Kd.R_reads' HO_7.out).2.2 | (with_reducible refine Kd.C_alloc ?_ _) | (with_reducible refine Kd.C_drewN ?_ _) | (with_reducible refine Kd.C_drew ?_))); (case side2 => rw [show t46136.length = t46120.length from (Kd.R_reads' HO_7.out).1.symm]; exact (Kd.R_reads' HO_7.out).2.1); rintro e w' ⟨rfl, ⟨nd, rfl⟩⟩; refine ⟨_, rfl, ?_⟩; have hnb64 := NB46101_46119.out; have hnc64 := NB46119_46101.out; have hcz65_0 : w63.cell? ⟨gb46101, 0, none⟩ = some (.int .i64 a0_0) := (blk_cell BK46101.out 0).trans rfl; have hcz65_1 : w63.cell? ⟨gb46101, 1, none⟩ = some (.int .i64 a0_1) := (blk_cell BK46101.out 1).trans rfl; have hcz65_2 : w63.cell? ⟨gb46101, 2, none⟩ = some (.int .i64 a0_2) := (blk_cell BK46101.out 2).trans rfl; have hcz65_3 : w63.cell? ⟨gb46101, 3, none⟩ = some (.slice A0_3 l0_3.length c0_3) := (blk_cell BK46101.out 3).trans rfl; have hfz65_0 := blk_frozen BK46101.out 0; have hfz65_1 := blk_frozen BK46101.out 1; have hfz65_2 := blk_frozen BK46101.out 2; have hfz65_3 := blk_frozen BK46101.out 3) | ((with_reducible refine gate_callee (f := 39) rfl ?_); refine goesL_ (some 75) rfl rfl Try.func39 (by kernel_rfl) rfl #[.agg #[.int .i64 a0_0, .int .i64 a0_1, .int .i64 a0_2, .slice A0_3 l0_3.length c0_3]] rfl (by (try simp only [List.map_toArray, List.map_cons, List.map_nil]); first | done | rfl | (simp only [List.length_drop, List.length_take]; rfl)) ?_; (with_reducible refine (laws_toBoard.calls kj36 a0_0 a0_1 a0_2 _ _ l0_3 t46138 t46139 t46140 t46141 _ ?side1 ?side2 A59.out).mono ?_); (case side1 => repeat (first | exact (Kd.C_below HR0_3.out (by repeat (first | (with_reducible first | exact HB.out | apply below_alloc | apply pw_below_drewN | apply below_drew1 | refine below_set ?_ GE46101.out | refine below_set ?_ GE46119.out) | exact HB.out))) | (with_reducible refine Kd.C_alloc ?_ _) | (with_reducible refine Kd.C_drewN ?_ _) | (with_reducible refine Kd.C_drew ?_))); (case side2 => exact HC0_3.out); rintro e w66 ⟨v46142, rfl, ho0, hb⟩; refine ⟨_, rfl, ?_⟩; have n0_ := Aside0.mk (Kd.R_below (by (with_reducible repeat (first | apply Kd.R_alloc | apply Kd.R_drewN | apply Kd.R_drew)); exact HO_4.out) hb); have n1_ := Aside0.mk (Kd.R_below (by (with_reducible repeat (first | apply Kd.R_alloc | apply Kd.R_drewN | apply Kd.R_drew)); exact HO_7.out) hb); have n2_ := Aside0.mk (Kd.R_elder' (by (with_reducible repeat (first | apply Kd.R_alloc | apply Kd.R_drewN | apply Kd.R_drew)); exact HO_46120003.out) (Kd.R_base ho0) hb); have n3_ := Aside0.mk (Kd.R_lower (Kd.R_new' ho0 (Kd.R_lt (by (with_reducible repeat (first | apply Kd.R_alloc | apply Kd.R_drewN | apply Kd.R_drew)); exact HO_46120003.out))) (below_size (by repeat (first | (with_reducible first | exact HB.out | apply below_alloc | apply pw_below_drewN | apply below_drew1 | refine below_set ?_ GE46101.out | refine below_set ?_ GE46119.out) | exact HB.out)))); have n4_ := Aside0.mk (blk_below (g := gb46101) (o := .cells #[.int .i64 a0_0, .int .i64 a0_1, .int .i64 a0_2, .slice A0_3 l0_3.length c0_3] 24 (0, 0)) (by (with_reducible repeat (first | refine blk_drewN ?_ _ | refine blk_drew ?_ | refine blk_alloc ?_ _)); exact BK46101.out) hb); have n5_ := Aside0.mk (blk_below (g := gb46119) (o := .cells #[.int .i64 t46113, .int .i64 t46114, .int .i64 t46115, .slice Ao24 t46133.length co24] 32 (0, 0)) (by (with_reducible repeat (first | refine blk_drewN ?_ _ | refine blk_drew ?_ | refine blk_alloc ?_ _)); exact BK46119.out) hb); have n6_ := Aside0.mk (below_step (by repeat (first | (with_reducible first | exact HB.out | apply below_alloc | apply pw_below_drewN | apply below_drew1 | refine below_set ?_ GE46101.out | refine below_set ?_ GE46119.out) | exact HB.out)) hb); clear HO_4; clear HO_7; clear HO_46120003; clear BK46101; clear BK46119; clear HB; have HO_4 := n0_; have HO_7 := n1_; have HO_46120003 := n2_; have HO46143 := n3_; have BK46101 := n4_; have BK46119 := n5_; have HB := n6_; clear n0_ n1_ n2_ n3_ n4_ n5_ n6_; (try clear hb); (try clear hb2); (try clear hk); (try clear hi); (try clear ho0); obtain ⟨Ao67, co67, eo67⟩ := Kd.R_slice HO46143.out; subst eo67) | ((with_reducible refine gate_callee (f := 96) rfl ?_); refine goesL_ (some 76) rfl rfl Try.func96 (by kernel_rfl) rfl #[.agg #[.int .i64 t46138, .int .i64 t46139, .int .i64 t46140, .slice Ao67 t46141.length co67]] rfl (by (try simp only [List.map_toArray, List.map_cons, List.map_nil]); first | done | rfl | (simp only [List.length_drop, List.length_take]; rfl)) ?_; (with_reducible refine (impl_HopelessSquares.calls kj36 t46138 t46139 t46140 _ _ t46141 t46144 t46147 _ ?side1 ?side2 A60.out).mono ?_); (case side1 => repeat (first | exact (Kd.R_reads' HO46143.out).2.2 | (with_reducible refine Kd.C_alloc ?_ _) | (with_reducible refine Kd.C_drewN ?_ _) | (with_reducible refine Kd.C_drew ?_))); (case side2 => exact (Kd.R_reads' HO46143.out).2.1); rintro e w68 ⟨v46145, rfl, ho0, hb⟩; refine ⟨_, rfl, ?_⟩; have n0_ := Aside0.mk (Kd.R_elder' (by (with_reducible repeat (first | apply Kd.R_alloc | apply Kd.R_drewN | apply Kd.R_drew)); exact HO_4.out) (Kd.R_base ho0) hb); have n1_ := Aside0.mk (Kd.R_elder' (by (with_reducible repeat (first | apply Kd.R_alloc | apply Kd.R_drewN | apply Kd.R_drew)); exact HO_7.out) (Kd.R_base ho0) hb); have n2_ := Aside0.mk (Kd.R_below (by (with_reducible repeat (first | apply Kd.R_alloc | apply Kd.R_drewN | apply Kd.R_drew)); exact HO_46120003.out) hb); have n3_ := Aside0.mk (Kd.R_below (by (with_reducible repeat (first | apply Kd.R_alloc | apply Kd.R_drewN | apply Kd.R_drew)); exact HO46143.out) hb); have n4_ := Aside0.mk (Kd.R_lower (Kd.R_new' (Kd.R_new' ho0 (Kd.R_lt (by (with_reducible repeat (first | apply Kd.R_alloc | apply Kd.R_drewN | apply Kd.R_drew)); exact HO_4.out))) (Kd.R_lt (by (with_reducible repeat (first | apply Kd.R_alloc | apply Kd.R_drewN | apply Kd.R_drew)); exact HO_7.out))) (below_size (by repeat (first | (with_reducible first | exact HB.out | apply below_alloc | apply pw_below_drewN | apply below_drew1 | refine below_set ?_ GE46101.out | refine below_set ?_ GE46119.out) | exact HB.out)))); have n5_ := Aside0.mk (blk_below (g := gb46101) (o := .cells #[.int .i64 a0_0, .int .i64 a0_1, .int .i64 a0_2, .slice A0_3 l0_3.length c0_3] 24 (0, 0)) (by (with_reducible repeat (first | refine blk_drewN ?_ _ | refine blk_drew ?_ | refine blk_alloc ?_ _)); exact BK46101.out) hb); have n6_ := Aside0.mk (blk_below (g := gb46119) (o := .cells #[.int .i64 t46113, .int .i64 t46114, .int .i64 t46115, .slice Ao24 t46133.length co24] 32 (0, 0)) (by (with_reducible repeat (first | refine blk_drewN ?_ _ | refine blk_drew ?_ | refine blk_alloc ?_ _)); exact BK46119.out) hb); have n7_ := Aside0.mk (below_step (by repeat (first | (with_reducible first | exact HB.out | apply below_alloc | apply pw_below_drewN | apply below_drew1 | refine below_set ?_ GE46101.out | refine below_set ?_ GE46119.out) | exact HB.out)) hb); clear HO_4; clear HO_7; clear HO_46120003; clear HO46143; clear BK46101; clear BK46119; clear HB; have HO_4 := n0_; have HO_7 := n1_; have HO_46120003 := n2_; have HO46143 := n3_; have HO46146 := n4_; have BK46101 := n5_; have BK46119 := n6_; have HB := n7_; clear n0_ n1_ n2_ n3_ n4_ n5_ n6_ n7_; (try clear hb); (try clear hb2); (try clear hk); (try clear hi); (try clear ho0)))
           (try simp only [Act.put, List.setIfInBounds_toArray, List.set_cons_zero, List.set_cons_succ])
           go_cut [87] (fun v87 wc => ∃ (kq : Nat) (x87_60 : Bool), v87 = .bool x87_60 ∧ Aside0 (laws_FnExactHopelessSquares.j2 kq t46136 t46135 x87_60 = some r) ∧ Aside0 (kq ≤ kj36) ∧ Aside0 (Kd.R (Kd.int .i64) 3 wc w.heap.size (fun _ => True) (.slice Ao62 t46120.length co62) t46136) ∧ Aside0 (Kd.R k27 27 wc w.heap.size (fun _ => True) (.slice Ao24 t46133.length co24) t46133) ∧ Aside0 (wc.heap[gb46101]? = some (.cells #[.int .i64 a0_0, .int .i64 a0_1, .int .i64 a0_2, (.slice A0_3 l0_3.length c0_3)] 24 (0, 0))) ∧ Aside0 (wc.heap[gb46119]? = some (.cells #[.int .i64 t46113, .int .i64 t46114, .int .i64 t46115, (.slice Ao24 t46133.length co24)] 32 (0, 0))) ∧ Aside0 (Below w.heap.size w wc))
           case first =>
            have H := HC61.out
            clear HC61
            replace H := Option.bind_eq_some_iff.mp H
            obtain ⟨t46148, A690, H⟩ := H
            replace H : (if t46148 = true then (laws_FnExactHopelessSquares.j2 kj36 t46136 t46135 (t46147 != t46112)) else (laws_FnExactHopelessSquares.j2 kj36 t46136 t46135 true)) = some r := H
            have A69 := Aside0.mk A690
            clear A690
            by_cases c70 : t46148 = true
            ·subst c70
             have H1 : (laws_FnExactHopelessSquares.j2 kj36 t46136 t46135 (t46147 != t46112)) = some r := by rw [if_pos rfl] at H; exact H
             clear H
             have H := H1
             clear H1
             have H' := Aside0.mk H
             clear H
             obtain ⟨Ao71, co71, eo71⟩ := Kd.R_slice HO46146.out
             subst eo71
             obtain ⟨Ao72, co72, eo72⟩ := Kd.R_slice HO_4.out
             subst eo72
             go_wp2_with (first | ((with_reducible refine gate_callee (f := 67) rfl ?_); refine goesL_ (some 81) rfl rfl Try.func67 (by kernel_rfl) rfl #[.slice Ao71 t46144.length co71, .slice Ao72 t46109.length co72] rfl (by (try simp only [List.map_toArray, List.map_cons, List.map_nil]); first | done | rfl | (simp only [List.length_drop, List.length_take]; rfl)) ?_; (with_reducible refine (laws_eqIntS.calls kj36 _ _ t46144 _ _ t46109 true _ ?side1 ?side2 ?side3 ?side4 A69.out).mono ?_); (case side1 => repeat (first | exact (Kd.R_reads' HO46146.out).2.2 | (with_reducible refine Kd.C_alloc ?_ _) | (with_reducible refine Kd.C_drewN ?_ _) | (with_reducible refine Kd.C_drew ?_))); (case side2 => exact (Kd.R_reads' HO46146.out).2.1); (case side3 => repeat (first | exact (Kd.R_reads' HO_4.out).2.2 | (with_reducible refine Kd.C_alloc ?_ _) | (with_reducible refine Kd.C_drewN ?_ _) | (with_reducible refine Kd.C_drew ?_))); (case side4 => exact (Kd.R_reads' HO_4.out).2.1); rintro e w' ⟨rfl, ⟨nd, rfl⟩⟩; refine ⟨_, rfl, ?_⟩))
             go_meet
             case rel => exact ⟨_, ((t46147 != t46112)), (by first | rfl | (simp; done) | (simp [*]; done)), H', ⟨by have := HJ10.out; have := HJ36.out; first | omega | exact Nat.le_refl _⟩, ⟨by (try simp only [hl46120003_36]); (with_reducible repeat (first | apply Kd.R_alloc | apply Kd.R_drewN | apply Kd.R_drew)); exact Kd.R_mono HO_7.out (fun _ hk => trivial)⟩, ⟨by (try simp only [hl46120003_36]); (with_reducible repeat (first | apply Kd.R_alloc | apply Kd.R_drewN | apply Kd.R_drew)); exact Kd.R_mono HO_46120003.out (fun _ hk => trivial)⟩, ⟨by (try simp only [hl46120003_36]); (with_reducible repeat (first | refine blk_drewN ?_ _ | refine blk_drew ?_ | refine blk_alloc ?_ _)); exact BK46101.out⟩, ⟨by (try simp only [hl46120003_36]); (with_reducible repeat (first | refine blk_drewN ?_ _ | refine blk_drew ?_ | refine blk_alloc ?_ _)); exact BK46119.out⟩, ⟨by repeat (first | (with_reducible first | exact HB.out | apply below_alloc | apply pw_below_drewN | apply below_drew1 | refine below_set ?_ GE46101.out | refine below_set ?_ GE46119.out) | exact HB.out)⟩⟩
            ·replace c70 := Bool.eq_false_iff.mpr c70
             subst c70
             have H1 : (laws_FnExactHopelessSquares.j2 kj36 t46136 t46135 true) = some r := by rw [if_neg (show ¬ (false = true) by decide)] at H; exact H
             clear H
             have H := H1
             clear H1
             have H' := Aside0.mk H
             clear H
             obtain ⟨Ao73, co73, eo73⟩ := Kd.R_slice HO46146.out
             subst eo73
             obtain ⟨Ao74, co74, eo74⟩ := Kd.R_slice HO_4.out
             subst eo74
             go_wp2_with (first | ((with_reducible refine gate_callee (f := 67) rfl ?_); refine goesL_ (some 81) rfl rfl Try.func67 (by kernel_rfl) rfl #[.slice Ao73 t46144.length co73, .slice Ao74 t46109.length co74] rfl (by (try simp only [List.map_toArray, List.map_cons, List.map_nil]); first | done | rfl | (simp only [List.length_drop, List.length_take]; rfl)) ?_; (with_reducible refine (laws_eqIntS.calls kj36 _ _ t46144 _ _ t46109 false _ ?side1 ?side2 ?side3 ?side4 A69.out).mono ?_); (case side1 => repeat (first | exact (Kd.R_reads' HO46146.out).2.2 | (with_reducible refine Kd.C_alloc ?_ _) | (with_reducible refine Kd.C_drewN ?_ _) | (with_reducible refine Kd.C_drew ?_))); (case side2 => exact (Kd.R_reads' HO46146.out).2.1); (case side3 => repeat (first | exact (Kd.R_reads' HO_4.out).2.2 | (with_reducible refine Kd.C_alloc ?_ _) | (with_reducible refine Kd.C_drewN ?_ _) | (with_reducible refine Kd.C_drew ?_))); (case side4 => exact (Kd.R_reads' HO_4.out).2.1); rintro e w' ⟨rfl, ⟨nd, rfl⟩⟩; refine ⟨_, rfl, ?_⟩))
             go_meet
             case rel => exact ⟨_, (true), (by first | rfl | (simp; done) | (simp [*]; done)), H', ⟨by have := HJ10.out; have := HJ36.out; first | omega | exact Nat.le_refl _⟩, ⟨by (try simp only [hl46120003_36]); (with_reducible repeat (first | apply Kd.R_alloc | apply Kd.R_drewN | apply Kd.R_drew)); exact Kd.R_mono HO_7.out (fun _ hk => trivial)⟩, ⟨by (try simp only [hl46120003_36]); (with_reducible repeat (first | apply Kd.R_alloc | apply Kd.R_drewN | apply Kd.R_drew)); exact Kd.R_mono HO_46120003.out (fun _ hk => trivial)⟩, ⟨by (try simp only [hl46120003_36]); (with_reducible repeat (first | refine blk_drewN ?_ _ | refine blk_drew ?_ | refine blk_alloc ?_ _)); exact BK46101.out⟩, ⟨by (try simp only [hl46120003_36]); (with_reducible repeat (first | refine blk_drewN ?_ _ | refine blk_drew ?_ | refine blk_alloc ?_ _)); exact BK46119.out⟩, ⟨by repeat (first | (with_reducible first | exact HB.out | apply below_alloc | apply pw_below_drewN | apply below_drew1 | refine below_set ?_ GE46101.out | refine below_set ?_ GE46119.out) | exact HB.out)⟩⟩
           case rest =>
            clear HC61
            try clear c2
            try clear p2
            try clear c3
            try clear c3b0
            try clear c4
            try clear c5
            try clear c6
            try clear c7
            try clear c9
            try clear c22
            try clear c23
            try clear c27
            try clear c32
            try clear c35
            try clear c37
            try clear c39
            try clear c42
            try clear c45
            try clear c45b0
            try clear c47
            try clear c52
            try clear c55
            try clear c55b0
            try clear c58
            try clear c58b0
            try clear c58b1
            try clear c64
            try clear c67
            try clear c68
            try clear c69
            try clear c70
            try clear hcz13_0
            try clear hcz13_1
            try clear hcz13_2
            try clear hcz13_3
            try clear hcz15_0
            try clear hcz15_1
            try clear hcz15_2
            try clear hcz15_3
            try clear hcz19_0
            try clear hcz19_1
            try clear hcz19_2
            try clear hcz19_3
            try clear hcz23_0
            try clear hcz23_1
            try clear hcz23_2
            try clear hcz23_3
            try clear hcz43_0
            try clear hcz43_1
            try clear hcz43_2
            try clear hcz43_3
            try clear hcz5_0
            try clear hcz5_1
            try clear hcz5_2
            try clear hcz5_3
            try clear hcz65_0
            try clear hcz65_1
            try clear hcz65_2
            try clear hcz65_3
            try clear hfz13_0
            try clear hfz13_1
            try clear hfz13_2
            try clear hfz13_3
            try clear hfz15_0
            try clear hfz15_1
            try clear hfz15_2
            try clear hfz15_3
            try clear hfz19_0
            try clear hfz19_1
            try clear hfz19_2
            try clear hfz19_3
            try clear hfz23_0
            try clear hfz23_1
            try clear hfz23_2
            try clear hfz23_3
            try clear hfz43_0
            try clear hfz43_1
            try clear hfz43_2
            try clear hfz43_3
            try clear hfz5_0
            try clear hfz5_1
            try clear hfz5_2
            try clear hfz5_3
            try clear hfz65_0
            try clear hfz65_1
            try clear hfz65_2
            try clear hfz65_3
            try clear p2
            obtain ⟨kq, x87_60, rfl, HA, HJ60, HO_7, HO_46120003, BK46101, BK46119, HB⟩ := hcut
            have hl7_60 := (Kd.R_reads' HO_7.out).1
            rw [hl7_60] at HO_7
            (try simp only [hl7_60])
            (try simp only [hl7_60] at BK46101)
            (try simp only [hl7_60] at BK46119)
            (try simp only [hl7_60] at HO_46120003)
            cases kq with
            | zero => exact absurd HA.out (by simp [laws_FnExactHopelessSquares.j2])
            | succ kj60 =>
             have H := HA.out
             clear HA
             simp only [laws_FnExactHopelessSquares.j2] at H
             by_cases c75 : x87_60 = true
             ·subst c75
              have H1 : (some false) = some r := by rw [if_pos rfl] at H; exact H
              clear H
              have H := H1
              clear H1
              obtain rfl := Option.some.inj H
              go_wp2
              go_ret
              exact ⟨by first | rfl | (simp [errW_none, errW_some] <;> rfl) | (simp [*, errW_none, errW_some] <;> rfl), by repeat (first | (with_reducible first | exact HB.out | apply below_alloc | apply pw_below_drewN | apply below_drew1 | refine below_set ?_ GE46101.out | refine below_set ?_ GE46119.out) | exact HB.out)⟩
             ·replace c75 := Bool.eq_false_iff.mpr c75
              subst c75
              have H1 : ((laws_heldIntS.f kj60 t46136 1).bind fun t46149 => (if t46149 < 0 then (some false) else (if t46149 = t46135 then (some true) else (some false)))) = some r := by rw [if_neg (show ¬ (false = true) by decide)] at H; exact H
              clear H
              have H := H1
              clear H1
              replace H := Option.bind_eq_some_iff.mp H
              obtain ⟨t46149, A760, H⟩ := H
              replace H : (if t46149 < 0 then (some false) else (if t46149 = t46135 then (some true) else (some false))) = some r := H
              have A76 := Aside0.mk A760
              clear A760
              by_cases c77 : t46149 < 0
              ·rw [if_pos c77] at H
               have c77b0 : decide (t46149 < 0) = true := decide_eq_true c77
               clear c77
               obtain rfl := Option.some.inj H
               go_wp2_with (first | ((with_reducible refine gate_callee (f := 69) rfl ?_); refine goesL_ (some 90) rfl rfl Try.func69 (by kernel_rfl) rfl #[.slice Ao62 t46136.length co62, .int .i64 1] rfl (by (try simp only [List.map_toArray, List.map_cons, List.map_nil]); first | done | rfl | (simp only [List.length_drop, List.length_take]; rfl)) ?_; (with_reducible refine (laws_heldIntS.calls kj60 _ _ t46136 1 t46149 _ ?side1 ?side2 A76.out).mono ?_); (case side1 => repeat (first | exact (Kd.R_reads' HO_7.out).2.2 | (with_reducible refine Kd.C_alloc ?_ _) | (with_reducible refine Kd.C_drewN ?_ _) | (with_reducible refine Kd.C_drew ?_))); (case side2 => exact (Kd.R_reads' HO_7.out).2.1); rintro e w' ⟨rfl, ⟨nd, rfl⟩⟩; refine ⟨_, rfl, ?_⟩))
               go_ret
               exact ⟨by first | rfl | (simp [errW_none, errW_some] <;> rfl) | (simp [*, errW_none, errW_some] <;> rfl), by repeat (first | (with_reducible first | exact HB.out | apply below_alloc | apply pw_below_drewN | apply below_drew1 | refine below_set ?_ GE46101.out | refine below_set ?_ GE46119.out) | exact HB.out)⟩
              ·rw [if_neg c77] at H
               have c77b0 : decide (t46149 < 0) = false := decide_eq_false c77
               clear c77
               by_cases c78 : t46149 = t46135
               ·rw [if_pos c78] at H
                have c78b0 : (t46149 == t46135) = true := beq_iff_eq.mpr c78
                have c78b1 : (t46149 != t46135) = false := bne_eq_false_iff_eq.mpr c78
                clear c78
                obtain rfl := Option.some.inj H
                go_wp2_with (first | ((with_reducible refine gate_callee (f := 69) rfl ?_); refine goesL_ (some 90) rfl rfl Try.func69 (by kernel_rfl) rfl #[.slice Ao62 t46136.length co62, .int .i64 1] rfl (by (try simp only [List.map_toArray, List.map_cons, List.map_nil]); first | done | rfl | (simp only [List.length_drop, List.length_take]; rfl)) ?_; (with_reducible refine (laws_heldIntS.calls kj60 _ _ t46136 1 t46149 _ ?side1 ?side2 A76.out).mono ?_); (case side1 => repeat (first | exact (Kd.R_reads' HO_7.out).2.2 | (with_reducible refine Kd.C_alloc ?_ _) | (with_reducible refine Kd.C_drewN ?_ _) | (with_reducible refine Kd.C_drew ?_))); (case side2 => exact (Kd.R_reads' HO_7.out).2.1); rintro e w' ⟨rfl, ⟨nd, rfl⟩⟩; refine ⟨_, rfl, ?_⟩))
                go_ret
                exact ⟨by first | rfl | (simp [errW_none, errW_some] <;> rfl) | (simp [*, errW_none, errW_some] <;> rfl), by repeat (first | (with_reducible first | exact HB.out | apply below_alloc | apply pw_below_drewN | apply below_drew1 | refine below_set ?_ GE46101.out | refine below_set ?_ GE46119.out) | exact HB.out)⟩
               ·rw [if_neg c78] at H
                have c78b0 : (t46149 == t46135) = false := beq_eq_false_iff_ne.mpr c78
                have c78b1 : (t46149 != t46135) = true := bne_iff_ne.mpr c78
                obtain rfl := Option.some.inj H
                go_wp2_with (first | ((with_reducible refine gate_callee (f := 69) rfl ?_); refine goesL_ (some 90) rfl rfl Try.func69 (by kernel_rfl) rfl #[.slice Ao62 t46136.length co62, .int .i64 1] rfl (by (try simp only [List.map_toArray, List.map_cons, List.map_nil]); first | done | rfl | (simp only [List.length_drop, List.length_take]; rfl)) ?_; (with_reducible refine (laws_heldIntS.calls kj60 _ _ t46136 1 t46149 _ ?side1 ?side2 A76.out).mono ?_); (case side1 => repeat (first | exact (Kd.R_reads' HO_7.out).2.2 | (with_reducible refine Kd.C_alloc ?_ _) | (with_reducible refine Kd.C_drewN ?_ _) | (with_reducible refine Kd.C_drew ?_))); (case side2 => exact (Kd.R_reads' HO_7.out).2.1); rintro e w' ⟨rfl, ⟨nd, rfl⟩⟩; refine ⟨_, rfl, ?_⟩))
                go_ret
                exact ⟨by first | rfl | (simp [errW_none, errW_some] <;> rfl) | (simp [*, errW_none, errW_some] <;> rfl), by repeat (first | (with_reducible first | exact HB.out | apply below_alloc | apply pw_below_drewN | apply below_drew1 | refine below_set ?_ GE46101.out | refine below_set ?_ GE46119.out) | exact HB.out)⟩
          ·rw [if_neg c58] at H
           have c58b0 : (t46137 == t46135) = false := beq_eq_false_iff_ne.mpr c58
           have c58b1 : (t46137 != t46135) = true := bne_iff_ne.mpr c58
           obtain rfl := Option.some.inj H
           obtain ⟨Ao79, co79, eo79⟩ := Kd.R_slice HO_7.out
           subst eo79
           go_wp2_with (first | ((with_reducible refine gate_callee (f := 68) rfl ?_); refine goesL_ (some 64) rfl rfl Try.func68 (by kernel_rfl) rfl #[.slice Ao79 t46120.length co79, .int .i64 1] rfl (by (try simp only [List.map_toArray, List.map_cons, List.map_nil]); first | done | rfl | (simp only [List.length_drop, List.length_take]; rfl)) ?_; (with_reducible refine (laws_markIntS.calls kj36 (fun k_ => some k_ = (.slice Ao79 t46120.length co79 : Value).ownBlock) (.slice Ao79 t46120.length co79) t46120 1 t46135 t46136 w _ ?side1 ?side2 A53.out).mono ?_); (case side1 => repeat (first | (with_reducible first | exact HB.out | apply below_alloc | apply pw_below_drewN | apply below_drew1 | refine below_set ?_ GE46101.out | refine below_set ?_ GE46119.out) | exact HB.out)); (case side2 => exact Kd.R_tight rfl HO_7.out); rintro e w80 ⟨rfl, hy0, hb, hkp⟩; refine ⟨_, rfl, ?_⟩; have n0_ := Aside0.mk (Kd.R_mono (ok' := fun k_ => some k_ ≠ (.slice Ao79 t46120.length co79 : Value).ownBlock) (Kd.R_keptB (HO_4.out) hkp (fun k_ hk_ hs_ => (hk_) hs_)) (fun k_ hk_ => hk_.1)); have n1_ := Aside0.mk (Kd.R_reok rfl hy0 (fun k_ e_ => HO_7.out.1 k_ e_)); have n2_ := Aside0.mk (Kd.R_mono (ok' := fun k_ => True) (Kd.R_keptB ((Kd.R_apart' HO_46120003.out (Kd.R_typed HO_7.out) (by decide))) hkp (fun k_ hk_ hs_ => (hk_.2) hs_)) (fun k_ hk_ => trivial)); have n3_ := Aside0.mk (blk_kept (by (with_reducible repeat (first | refine blk_drewN ?_ _ | refine blk_drew ?_ | refine blk_alloc ?_ _)); exact BK46101.out) hkp (fun hs_ => (fun e_ => (Kd.R_ne HO_7.out BK46101.out (by decide)) e_) hs_)); have n4_ := Aside0.mk (blk_kept (by (with_reducible repeat (first | refine blk_drewN ?_ _ | refine blk_drew ?_ | refine blk_alloc ?_ _)); exact BK46119.out) hkp (fun hs_ => (fun e_ => (Kd.R_ne HO_7.out BK46119.out (by decide)) e_) hs_)); have n5_ := Aside0.mk (hb); clear HO_4; clear HO_7; clear HO_46120003; clear BK46101; clear BK46119; clear HB; have HO_4 := n0_; have HO_7 := n1_; have HO_46120003 := n2_; have BK46101 := n3_; have BK46119 := n4_; have HB := n5_; clear n0_ n1_ n2_ n3_ n4_ n5_; (try clear hb); (try clear hkp); (try clear hy0)) | ((with_reducible refine gate_callee (f := 69) rfl ?_); refine goesL_ (some 67) rfl rfl Try.func69 (by kernel_rfl) rfl #[.slice Ao79 t46136.length co79, .int .i64 1] rfl (by (try simp only [List.map_toArray, List.map_cons, List.map_nil]); first | done | (rw [show t46136.length = t46120.length from (Kd.R_reads' HO_7.out).1.symm] <;> rfl) | rfl | (simp only [List.length_drop, List.length_take]; rfl)) ?_; (with_reducible refine (laws_heldIntS.calls kj36 _ _ t46136 1 t46137 _ ?side1 ?side2 A54.out).mono ?_); (case side1 => repeat (first | exact (Kd.R_reads' HO_7.out).2.2 | (with_reducible refine Kd.C_alloc ?_ _) | (with_reducible refine Kd.C_drewN ?_ _) | (with_reducible refine Kd.C_drew ?_))); (case side2 => rw [show t46136.length = t46120.length from (Kd.R_reads' HO_7.out).1.symm]; exact (Kd.R_reads' HO_7.out).2.1); rintro e w' ⟨rfl, ⟨nd, rfl⟩⟩; refine ⟨_, rfl, ?_⟩))
           go_ret
           exact ⟨by first | rfl | (simp [errW_none, errW_some] <;> rfl) | (simp [*, errW_none, errW_some] <;> rfl), by repeat (first | (with_reducible first | exact HB.out | apply below_alloc | apply pw_below_drewN | apply below_drew1 | refine below_set ?_ GE46101.out | refine below_set ?_ GE46119.out) | exact HB.out)⟩
     ·replace c35 := Bool.eq_false_iff.mpr c35
      subst c35
      have H1 : (some false) = some r := by rw [if_neg (show ¬ (false = true) by decide)] at H; exact H
      clear H
      have H := H1
      clear H1
      obtain rfl := Option.some.inj H
      try go_wp2
      have n0_ := Aside0.mk (Kd.R_drew HO_4.out)
      have n1_ := Aside0.mk (Kd.R_drew HO_7.out)
      have n2_ := Aside0.mk (Kd.R_drew HO_46120003.out)
      have n3_ := Aside0.mk (blk_drew BK46101.out)
      have n4_ := Aside0.mk (blk_drew BK46119.out)
      have n5_ := Aside0.mk (below_drew1 HB.out)
      clear HO_4
      clear HO_7
      clear HO_46120003
      clear BK46101
      clear BK46119
      clear HB
      have HO_4 := n0_
      have HO_7 := n1_
      have HO_46120003 := n2_
      have BK46101 := n3_
      have BK46119 := n4_
      have HB := n5_
      clear n0_ n1_ n2_ n3_ n4_ n5_
      refine start_ (n := 5) (S := fun w' => w'.cell? ⟨gb46119, 0, none⟩ = some (.int .i64 t46113) ∧ w'.cell? ⟨gb46119, 1, none⟩ = some (.int .i64 t46114) ∧ w'.cell? ⟨gb46119, 2, none⟩ = some (.int .i64 t46115) ∧ w'.cell? ⟨gb46119, 3, none⟩ = some (.slice Ao24 t46116.length co24) ∧ w'.cell? ⟨gb46101, 0, none⟩ = some (.int .i64 a0_0) ∧ w'.cell? ⟨gb46101, 1, none⟩ = some (.int .i64 a0_1) ∧ w'.cell? ⟨gb46101, 2, none⟩ = some (.int .i64 a0_2) ∧ w'.cell? ⟨gb46101, 3, none⟩ = some (.slice A0_3 l0_3.length c0_3)) (ds := []) #[false, false, false, false, false] (by kernel_rfl) rfl rfl ⟨(blk_cell BK46119.out 0).trans rfl, (blk_cell BK46119.out 1).trans rfl, (blk_cell BK46119.out 2).trans rfl, (blk_cell BK46119.out 3).trans rfl, (blk_cell BK46101.out 0).trans rfl, (blk_cell BK46101.out 1).trans rfl, (blk_cell BK46101.out 2).trans rfl, (blk_cell BK46101.out 3).trans rfl⟩ (fun hHeld => ?_)
      generalize wc.drew = w81 at HO_4 HO_7 HO_46120003 BK46101 BK46119 HB hHeld ⊢
      refine take_ (i := 0) (N := some 41) (v := ?_) (a' := ?_) #[true, false, false, false, false] rfl rfl (by kernel_rfl) (fun _ _ _ h => h) (Or.inl ⟨by rfl, ?_⟩) hHeld ?_ ?_
      rotate_left
      ·rintro w' ⟨s0, s1, s2, s3, s4, s5, s6, s7⟩
       go_simp
       with_reducible rfl
      rotate_left
      ·simp only [Act.put, List.setIfInBounds_toArray, List.set_cons_zero, List.set_cons_succ, i64_w, i32_w]
       rfl
      refine take_ (i := 1) (N := some 42) (v := ?_) (a' := ?_) #[true, true, false, false, false] rfl rfl (by kernel_rfl) (fun _ _ _ h => h) (Or.inl ⟨by rfl, ?_⟩) hHeld ?_ ?_
      rotate_left
      ·rintro w' ⟨s0, s1, s2, s3, s4, s5, s6, s7⟩
       go_simp
       with_reducible rfl
      rotate_left
      ·simp only [Act.put, List.setIfInBounds_toArray, List.set_cons_zero, List.set_cons_succ, i64_w, i32_w]
       rfl
      refine one_ (i := 2) (N := some 43) #[true, true, true, false, false] rfl rfl (by kernel_rfl) (by decide) (fun K hK => ?_)
      refine goes_ Try.func39 (by kernel_rfl) rfl #[.agg #[.int .i64 a0_0, .int .i64 a0_1, .int .i64 a0_2, .slice A0_3 l0_3.length c0_3]] (by rfl) rfl rfl (by (try simp only [List.map_toArray, List.map_cons, List.map_nil]); first | done | rfl | (simp only [List.length_drop, List.length_take]; rfl)) ?_
      with_reducible refine (laws_toBoard.calls kj10 a0_0 a0_1 a0_2 _ _ l0_3 t46125 t46126 t46127 t46128 _ ?side1 ?side2 A33.out).mono ?_
      (case side1 => repeat (first | exact (Kd.C_below HR0_3.out HB.out) | (with_reducible refine Kd.C_alloc ?_ _) | (with_reducible refine Kd.C_drewN ?_ _) | (with_reducible refine Kd.C_drew ?_)))
      (case side2 => exact HC0_3.out)
      rintro e w82 ⟨v46129, rfl, ho0, hb⟩
      refine ⟨_, rfl, ?_⟩
      have n0_ := Aside0.mk (Kd.R_below (by (with_reducible repeat (first | apply Kd.R_alloc | apply Kd.R_drewN | apply Kd.R_drew)); exact HO_4.out) hb)
      have n1_ := Aside0.mk (Kd.R_below (by (with_reducible repeat (first | apply Kd.R_alloc | apply Kd.R_drewN | apply Kd.R_drew)); exact HO_7.out) hb)
      have n2_ := Aside0.mk (Kd.R_elder' (by (with_reducible repeat (first | apply Kd.R_alloc | apply Kd.R_drewN | apply Kd.R_drew)); exact HO_46120003.out) (Kd.R_base ho0) hb)
      have n3_ := Aside0.mk (Kd.R_lower (Kd.R_new' ho0 (Kd.R_lt (by (with_reducible repeat (first | apply Kd.R_alloc | apply Kd.R_drewN | apply Kd.R_drew)); exact HO_46120003.out))) (below_size (by repeat (first | (with_reducible first | exact HB.out | apply below_alloc | apply pw_below_drewN | apply below_drew1 | refine below_set ?_ GE46101.out | refine below_set ?_ GE46119.out) | exact HB.out))))
      have n4_ := Aside0.mk (blk_below (g := gb46101) (o := .cells #[.int .i64 a0_0, .int .i64 a0_1, .int .i64 a0_2, .slice A0_3 l0_3.length c0_3] 24 (0, 0)) (by (with_reducible repeat (first | refine blk_drewN ?_ _ | refine blk_drew ?_ | refine blk_alloc ?_ _)); exact BK46101.out) hb)
      have n5_ := Aside0.mk (blk_below (g := gb46119) (o := .cells #[.int .i64 t46113, .int .i64 t46114, .int .i64 t46115, .slice Ao24 t46116.length co24] 32 (0, 0)) (by (with_reducible repeat (first | refine blk_drewN ?_ _ | refine blk_drew ?_ | refine blk_alloc ?_ _)); exact BK46119.out) hb)
      have n6_ := Aside0.mk (below_step (by repeat (first | (with_reducible first | exact HB.out | apply below_alloc | apply pw_below_drewN | apply below_drew1 | refine below_set ?_ GE46101.out | refine below_set ?_ GE46119.out) | exact HB.out)) hb)
      clear HO_4
      clear HO_7
      clear HO_46120003
      clear BK46101
      clear BK46119
      clear HB
      have HO_4 := n0_
      have HO_7 := n1_
      have HO_46120003 := n2_
      have HO46130 := n3_
      have BK46101 := n4_
      have BK46119 := n5_
      have HB := n6_
      clear n0_ n1_ n2_ n3_ n4_ n5_ n6_
      (try clear hb)
      (try clear hb2)
      (try clear hk)
      (try clear hi)
      (try clear ho0)
      obtain ⟨Ao83, co83, eo83⟩ := Kd.R_slice HO46130.out
      (first | subst eo83 | (injection eo83 with f1_ f2_ f3_; have f4_ := f1_.symm; have f5_ := f3_.symm; clear f1_ f2_ f3_; subst f4_; subst f5_))
      refine hK.out _ _ ⟨(blk_cell BK46119.out 0).trans rfl, (blk_cell BK46119.out 1).trans rfl, (blk_cell BK46119.out 2).trans rfl, (blk_cell BK46119.out 3).trans rfl, (blk_cell BK46101.out 0).trans rfl, (blk_cell BK46101.out 1).trans rfl, (blk_cell BK46101.out 2).trans rfl, (blk_cell BK46101.out 3).trans rfl⟩ (fun hHeld => ?_)
      clear hK K
      refine norm_ (a' := ?_) ?_ ?_
      rotate_left
      ·show Act.put _ (some 43) _ = _
       simp only [Act.put, List.setIfInBounds_toArray, List.set_cons_zero, List.set_cons_succ, i64_w, i32_w]
       rfl
      refine one_ (i := 3) (N := some 44) #[true, true, true, true, false] rfl rfl (by kernel_rfl) (by decide) (fun K hK => ?_)
      refine goes_ Try.func42 (by kernel_rfl) rfl #[.agg #[.int .i64 t46113, .int .i64 t46114, .int .i64 t46115, .slice Ao24 t46116.length co24], .agg #[.int .i64 t46125, .int .i64 t46126, .int .i64 t46127, .slice Ao83 t46128.length co83]] (by rfl) rfl rfl (by (try simp only [List.map_toArray, List.map_cons, List.map_nil]); first | done | rfl | (simp only [List.length_drop, List.length_take]; rfl)) ?_
      with_reducible refine (laws_eqBoard.calls kj10 t46113 t46114 t46115 _ _ t46116 t46125 t46126 t46127 _ _ t46128 false _ ?side1 ?side2 ?side3 ?side4 A34.out).mono ?_
      (case side1 => repeat (first | exact (Kd.R_reads' HO_46120003.out).2.2 | (with_reducible refine Kd.C_alloc ?_ _) | (with_reducible refine Kd.C_drewN ?_ _) | (with_reducible refine Kd.C_drew ?_)))
      (case side2 => exact (Kd.R_reads' HO_46120003.out).2.1)
      (case side3 => repeat (first | exact (Kd.R_reads' HO46130.out).2.2 | (with_reducible refine Kd.C_alloc ?_ _) | (with_reducible refine Kd.C_drewN ?_ _) | (with_reducible refine Kd.C_drew ?_)))
      (case side4 => exact (Kd.R_reads' HO46130.out).2.1)
      rintro e w84 ⟨rfl, hb⟩
      refine ⟨_, rfl, ?_⟩
      have n0_ := Aside0.mk (Kd.R_below (by (with_reducible repeat (first | apply Kd.R_alloc | apply Kd.R_drewN | apply Kd.R_drew)); exact HO_4.out) hb)
      have n1_ := Aside0.mk (Kd.R_below (by (with_reducible repeat (first | apply Kd.R_alloc | apply Kd.R_drewN | apply Kd.R_drew)); exact HO_7.out) hb)
      have n2_ := Aside0.mk (Kd.R_below (by (with_reducible repeat (first | apply Kd.R_alloc | apply Kd.R_drewN | apply Kd.R_drew)); exact HO_46120003.out) hb)
      have n3_ := Aside0.mk (Kd.R_below (by (with_reducible repeat (first | apply Kd.R_alloc | apply Kd.R_drewN | apply Kd.R_drew)); exact HO46130.out) hb)
      have n4_ := Aside0.mk (blk_below (g := gb46101) (o := .cells #[.int .i64 a0_0, .int .i64 a0_1, .int .i64 a0_2, .slice A0_3 l0_3.length c0_3] 24 (0, 0)) (by (with_reducible repeat (first | refine blk_drewN ?_ _ | refine blk_drew ?_ | refine blk_alloc ?_ _)); exact BK46101.out) hb)
      have n5_ := Aside0.mk (blk_below (g := gb46119) (o := .cells #[.int .i64 t46113, .int .i64 t46114, .int .i64 t46115, .slice Ao24 t46116.length co24] 32 (0, 0)) (by (with_reducible repeat (first | refine blk_drewN ?_ _ | refine blk_drew ?_ | refine blk_alloc ?_ _)); exact BK46119.out) hb)
      have n6_ := Aside0.mk (below_step (by repeat (first | (with_reducible first | exact HB.out | apply below_alloc | apply pw_below_drewN | apply below_drew1 | refine below_set ?_ GE46101.out | refine below_set ?_ GE46119.out) | exact HB.out)) hb)
      clear HO_4
      clear HO_7
      clear HO_46120003
      clear HO46130
      clear BK46101
      clear BK46119
      clear HB
      have HO_4 := n0_
      have HO_7 := n1_
      have HO_46120003 := n2_
      have HO46130 := n3_
      have BK46101 := n4_
      have BK46119 := n5_
      have HB := n6_
      clear n0_ n1_ n2_ n3_ n4_ n5_ n6_
      (try clear hb)
      (try clear hb2)
      (try clear hk)
      (try clear hi)
      refine hK.out _ _ ⟨(blk_cell BK46119.out 0).trans rfl, (blk_cell BK46119.out 1).trans rfl, (blk_cell BK46119.out 2).trans rfl, (blk_cell BK46119.out 3).trans rfl, (blk_cell BK46101.out 0).trans rfl, (blk_cell BK46101.out 1).trans rfl, (blk_cell BK46101.out 2).trans rfl, (blk_cell BK46101.out 3).trans rfl⟩ (fun hHeld => ?_)
      clear hK K
      refine norm_ (a' := ?_) ?_ ?_
      rotate_left
      ·show Act.put _ (some 44) _ = _
       simp only [Act.put, List.setIfInBounds_toArray, List.set_cons_zero, List.set_cons_succ, i64_w, i32_w]
       rfl
      refine pure_ (i := 4) (N := some 45) (v := ?_) (a' := ?_) #[true, true, true, true, true] rfl rfl (by kernel_rfl) (fun _ _ _ h => h) (Or.inl ⟨by rfl, ?_⟩) ?_ ?_
      rotate_left
      ·intro w'
       go_simp
       with_reducible rfl
      rotate_left
      ·simp only [Act.put, List.setIfInBounds_toArray, List.set_cons_zero, List.set_cons_succ, i64_w, i32_w]
       rfl
      refine done_ (by kernel_rfl) ?_
      try go_wp2
      go_ret
      exact ⟨by first | rfl | (simp [errW_none, errW_some] <;> rfl) | (simp [*, errW_none, errW_some] <;> rfl), by repeat (first | (with_reducible first | exact HB.out | apply below_alloc | apply pw_below_drewN | apply below_drew1 | refine below_set ?_ GE46101.out | refine below_set ?_ GE46119.out) | exact HB.out)⟩

end Go.Proofs.Ytkobjjadojpjfaa.Pr
