-- A text of the machine side, written by wip/gen.py of this repo out of the translation. Not trusted: Lean checks it.
import Derived.Test.YtkobjjadojpjfaaF0
import Derived.Test.YtkobjjadojpjfaaFGA
import Derived.Test.YtkobjjadojpjfaaFImplFewestThrows
import Derived.Test.YtkobjjadojpjfaaFSpecFewestThrows
namespace Go.Proofs.Ytkobjjadojpjfaa.Pr
open Go.RowKit Go.Proofs.YtkobjjadojpjfaaW.PrintWords Go.Proofs.YtkobjjadojpjfaaW.PrintLast Go.Proofs.YtkobjjadojpjfaaW.PrintMore
attribute [local go_sem] max2_int min2_int max_two min_two max_three min_three max_four min_four   -- for this text's walks alone
set_option linter.unusedVariables false
set_option linter.unusedSimpArgs false

/-! ### laws_FnExactFewestThrows: function 21 -/
def laws_FnExactFewestThrows.j0 : Nat → Bool → Int → Int → Int → List (S82) → Int → Int → Int → List (S27) → Option (Bool)
 | 0, _, _, _, _, _, _, _, _, _ => none
 | k + 1, x38, x42102000, x42102001, x42102002, x42102003, x42118000, x42118001, x42118002, x42118003 => if x38 = true then (some false) else ((laws_toBoard.f k x42102000 x42102001 x42102002 x42102003).bind fun bt42120 => ((laws_eqBoard.f k x42118000 x42118001 x42118002 x42118003 bt42120.1 bt42120.2.1 bt42120.2.2.1 bt42120.2.2.2).bind fun t42126 => (if t42126 = true then (some true) else (some false))))
def laws_FnExactFewestThrows.f (k : Nat) (a0_0 : Int) (a0_1 : Int) (a0_2 : Int) (l0_3 : List (S82)) (a1 : Int) : Option (Bool) := (laws_szBoard.f a0_0 a0_1 a0_2 l0_3 1048576).bind fun t42102 => (if t42102 < 0 then (some true) else ((laws_toBoard.f k a0_0 a0_1 a0_2 l0_3).bind fun bt42103 => ((spec_FewestThrows.f k bt42103.1 bt42103.2.1 bt42103.2.2.1 bt42103.2.2.2 a1).bind fun bt42109 => ((laws_toBoard.f k a0_0 a0_1 a0_2 l0_3).bind fun bt42111 => ((impl_FewestThrows.f k bt42111.1 bt42111.2.1 bt42111.2.2.1 bt42111.2.2.2 a1).bind fun bt42118 => (if bt42118.1 = bt42109.1 then (laws_FnExactFewestThrows.j0 k (bt42118.2 != bt42109.2) a0_0 a0_1 a0_2 l0_3 bt42111.1 bt42111.2.1 bt42111.2.2.1 bt42111.2.2.2) else (laws_FnExactFewestThrows.j0 k true a0_0 a0_1 a0_2 l0_3 bt42111.1 bt42111.2.1 bt42111.2.2.1 bt42111.2.2.2)))))))
set_option maxHeartbeats 8000000 in
set_option maxRecDepth 100000 in
theorem laws_FnExactFewestThrows.calls (k : Nat) (a0_0 : Int) (a0_1 : Int) (a0_2 : Int) (A0_3 : Option Addr) (c0_3 : Nat) (l0_3 : List (S82)) (a1 : Int) (r : Bool) (w : World) (hr0_3 : Kd.C k82 w A0_3 l0_3.length l0_3) (hc0_3 : l0_3.length ≤ c0_3) (h : laws_FnExactFewestThrows.f k a0_0 a0_1 a0_2 l0_3 a1 = some r) :
  Calls Try.prog 21 #[.agg #[.int .i64 a0_0, .int .i64 a0_1, .int .i64 a0_2, .slice A0_3 l0_3.length c0_3], .int .i64 a1] w fun e w' => e = .returned (.bool r) ∧ Below w.heap.size w w' := by
 have hu24 := Try.underlying24
 have hu32 := Try.underlying32
 have HR0_3 := Aside0.mk hr0_3
 have HC0_3 := Aside0.mk hc0_3
 clear hr0_3 hc0_3
 have HB := Aside0.mk (Below.refl w.heap.size w)
 have H : ((laws_szBoard.f a0_0 a0_1 a0_2 l0_3 1048576).bind fun t42102 => (if t42102 < 0 then (some true) else ((laws_toBoard.f k a0_0 a0_1 a0_2 l0_3).bind fun bt42103 => ((spec_FewestThrows.f k bt42103.1 bt42103.2.1 bt42103.2.2.1 bt42103.2.2.2 a1).bind fun bt42109 => ((laws_toBoard.f k a0_0 a0_1 a0_2 l0_3).bind fun bt42111 => ((impl_FewestThrows.f k bt42111.1 bt42111.2.1 bt42111.2.2.1 bt42111.2.2.2 a1).bind fun bt42118 => (if bt42118.1 = bt42109.1 then (laws_FnExactFewestThrows.j0 k (bt42118.2 != bt42109.2) a0_0 a0_1 a0_2 l0_3 bt42111.1 bt42111.2.1 bt42111.2.2.1 bt42111.2.2.2) else (laws_FnExactFewestThrows.j0 k true a0_0 a0_1 a0_2 l0_3 bt42111.1 bt42111.2.1 bt42111.2.2.1 bt42111.2.2.2)))))))) = some r := h
 clear h
 replace H := Option.bind_eq_some_iff.mp H
 obtain ⟨t42102, A30, H⟩ := H
 replace H : (if t42102 < 0 then (some true) else ((laws_toBoard.f k a0_0 a0_1 a0_2 l0_3).bind fun bt42103 => ((spec_FewestThrows.f k bt42103.1 bt42103.2.1 bt42103.2.2.1 bt42103.2.2.2 a1).bind fun bt42109 => ((laws_toBoard.f k a0_0 a0_1 a0_2 l0_3).bind fun bt42111 => ((impl_FewestThrows.f k bt42111.1 bt42111.2.1 bt42111.2.2.1 bt42111.2.2.2 a1).bind fun bt42118 => (if bt42118.1 = bt42109.1 then (laws_FnExactFewestThrows.j0 k (bt42118.2 != bt42109.2) a0_0 a0_1 a0_2 l0_3 bt42111.1 bt42111.2.1 bt42111.2.2.1 bt42111.2.2.2) else (laws_FnExactFewestThrows.j0 k true a0_0 a0_1 a0_2 l0_3 bt42111.1 bt42111.2.1 bt42111.2.2.1 bt42111.2.2.2))))))) = some r := H
 have A3 := Aside0.mk A30
 clear A30
 by_cases c4 : t42102 < 0
 ·rw [if_pos c4] at H
  have c4b0 : decide (t42102 < 0) = true := decide_eq_true c4
  clear c4
  obtain rfl := Option.some.inj H
  go_enter Try.func21, Try.ntmps21
  go_wp2_with (first | ((with_reducible refine gate_dst (N := 2) rfl ?_); refine box_event ?hg (N := 2) ?hd (cs := #[.int .i64 a0_0, .int .i64 a0_1, .int .i64 a0_2, .slice A0_3 l0_3.length c0_3]) (t := 24) ?hr ?_; (case hd => rfl); (case hg => rfl); (case hr => first | (go_simp; done) | (go_simp; rfl)); intro gb42101 hg w5 hbox hb; have n0_ := Aside0.mk (below_step (by repeat (first | (with_reducible first | exact HB.out | apply below_alloc | apply pw_below_drewN | apply below_drew1) | exact HB.out)) hb); have n1_ := Aside0.mk (hbox); have n2_ := Aside0.mk ((by rw [hg]; exact (below_size (by repeat (first | (with_reducible first | exact HB.out | apply below_alloc | apply pw_below_drewN | apply below_drew1) | exact HB.out))) : w.heap.size ≤ gb42101)); have n3_ := Aside0.mk ((by rw [hg]; exact (below_size (by repeat (first | (with_reducible first | exact HB.out | apply below_alloc | apply pw_below_drewN | apply below_drew1) | exact HB.out))) : w.heap.size ≤ gb42101)); clear HB; have HB := n0_; have BK42101 := n1_; have GW42101 := n2_; have GE42101 := n3_; clear n0_ n1_ n2_ n3_; clear hb hbox hg; have hcz6_0 : w5.cell? ⟨gb42101, 0, none⟩ = some (.int .i64 a0_0) := (blk_cell BK42101.out 0).trans rfl; have hcz6_1 : w5.cell? ⟨gb42101, 1, none⟩ = some (.int .i64 a0_1) := (blk_cell BK42101.out 1).trans rfl; have hcz6_2 : w5.cell? ⟨gb42101, 2, none⟩ = some (.int .i64 a0_2) := (blk_cell BK42101.out 2).trans rfl; have hcz6_3 : w5.cell? ⟨gb42101, 3, none⟩ = some (.slice A0_3 l0_3.length c0_3) := (blk_cell BK42101.out 3).trans rfl; have hfz6_0 := blk_frozen BK42101.out 0; have hfz6_1 := blk_frozen BK42101.out 1; have hfz6_2 := blk_frozen BK42101.out 2; have hfz6_3 := blk_frozen BK42101.out 3) | ((with_reducible refine gate_callee (f := 37) rfl ?_); refine goesL_ (some 13) rfl rfl Try.func37 (by kernel_rfl) rfl #[.agg #[.int .i64 a0_0, .int .i64 a0_1, .int .i64 a0_2, .slice A0_3 l0_3.length c0_3], .int .i64 1048576] rfl (by (try simp only [List.map_toArray, List.map_cons, List.map_nil]); first | done | rfl | (simp only [List.length_drop, List.length_take]; rfl)) ?_; (with_reducible refine (laws_szBoard.calls a0_0 a0_1 a0_2 _ _ l0_3 1048576 t42102 _ ?side1 ?side2 A3.out).mono ?_); (case side1 => repeat (first | exact (Kd.C_below HR0_3.out HB.out) | (with_reducible refine Kd.C_alloc ?_ _) | (with_reducible refine Kd.C_drewN ?_ _) | (with_reducible refine Kd.C_drew ?_))); (case side2 => exact HC0_3.out); rintro e w7 ⟨rfl, hb⟩; refine ⟨_, rfl, ?_⟩; have n0_ := Aside0.mk (blk_below (g := gb42101) (o := .cells #[.int .i64 a0_0, .int .i64 a0_1, .int .i64 a0_2, .slice A0_3 l0_3.length c0_3] 24 (0, 0)) (by (with_reducible repeat (first | refine blk_drewN ?_ _ | refine blk_drew ?_ | refine blk_alloc ?_ _)); exact BK42101.out) hb); have n1_ := Aside0.mk (below_step (by repeat (first | (with_reducible first | exact HB.out | apply below_alloc | apply pw_below_drewN | apply below_drew1 | refine below_set ?_ GE42101.out) | exact HB.out)) hb); clear BK42101; clear HB; have BK42101 := n0_; have HB := n1_; clear n0_ n1_; (try clear hb); (try clear hb2); (try clear hk); (try clear hi)))
  go_ret
  exact ⟨by first | rfl | (simp [errW_none, errW_some] <;> rfl) | (simp [*, errW_none, errW_some] <;> rfl), by repeat (first | (with_reducible first | exact HB.out | apply below_alloc | apply pw_below_drewN | apply below_drew1 | refine below_set ?_ GE42101.out) | exact HB.out)⟩
 ·rw [if_neg c4] at H
  have c4b0 : decide (t42102 < 0) = false := decide_eq_false c4
  clear c4
  replace H := Option.bind_eq_some_iff.mp H
  obtain ⟨⟨t42103, t42104, t42105, t42106⟩, A80, H⟩ := H
  replace H : ((spec_FewestThrows.f k t42103 t42104 t42105 t42106 a1).bind fun bt42109 => ((laws_toBoard.f k a0_0 a0_1 a0_2 l0_3).bind fun bt42111 => ((impl_FewestThrows.f k bt42111.1 bt42111.2.1 bt42111.2.2.1 bt42111.2.2.2 a1).bind fun bt42118 => (if bt42118.1 = bt42109.1 then (laws_FnExactFewestThrows.j0 k (bt42118.2 != bt42109.2) a0_0 a0_1 a0_2 l0_3 bt42111.1 bt42111.2.1 bt42111.2.2.1 bt42111.2.2.2) else (laws_FnExactFewestThrows.j0 k true a0_0 a0_1 a0_2 l0_3 bt42111.1 bt42111.2.1 bt42111.2.2.1 bt42111.2.2.2))))) = some r := H
  have A8 := Aside0.mk A80
  clear A80
  replace H := Option.bind_eq_some_iff.mp H
  obtain ⟨⟨t42109, t42110⟩, A90, H⟩ := H
  replace H : ((laws_toBoard.f k a0_0 a0_1 a0_2 l0_3).bind fun bt42111 => ((impl_FewestThrows.f k bt42111.1 bt42111.2.1 bt42111.2.2.1 bt42111.2.2.2 a1).bind fun bt42118 => (if bt42118.1 = t42109 then (laws_FnExactFewestThrows.j0 k (bt42118.2 != t42110) a0_0 a0_1 a0_2 l0_3 bt42111.1 bt42111.2.1 bt42111.2.2.1 bt42111.2.2.2) else (laws_FnExactFewestThrows.j0 k true a0_0 a0_1 a0_2 l0_3 bt42111.1 bt42111.2.1 bt42111.2.2.1 bt42111.2.2.2)))) = some r := H
  have A9 := Aside0.mk A90
  clear A90
  replace H := Option.bind_eq_some_iff.mp H
  obtain ⟨⟨t42111, t42112, t42113, t42114⟩, A100, H⟩ := H
  replace H : ((impl_FewestThrows.f k t42111 t42112 t42113 t42114 a1).bind fun bt42118 => (if bt42118.1 = t42109 then (laws_FnExactFewestThrows.j0 k (bt42118.2 != t42110) a0_0 a0_1 a0_2 l0_3 t42111 t42112 t42113 t42114) else (laws_FnExactFewestThrows.j0 k true a0_0 a0_1 a0_2 l0_3 t42111 t42112 t42113 t42114))) = some r := H
  have A10 := Aside0.mk A100
  clear A100
  replace H := Option.bind_eq_some_iff.mp H
  obtain ⟨⟨t42118, t42119⟩, A110, H⟩ := H
  replace H : (if t42118 = t42109 then (laws_FnExactFewestThrows.j0 k (t42119 != t42110) a0_0 a0_1 a0_2 l0_3 t42111 t42112 t42113 t42114) else (laws_FnExactFewestThrows.j0 k true a0_0 a0_1 a0_2 l0_3 t42111 t42112 t42113 t42114)) = some r := H
  have A11 := Aside0.mk A110
  clear A110
  have HC12 := Aside0.mk H
  clear H
  go_enter Try.func21, Try.ntmps21
  go_upto_region 8 with (first | ((with_reducible refine gate_dst (N := 2) rfl ?_); refine box_event ?hg (N := 2) ?hd (cs := #[.int .i64 a0_0, .int .i64 a0_1, .int .i64 a0_2, .slice A0_3 l0_3.length c0_3]) (t := 24) ?hr ?_; (case hd => rfl); (case hg => rfl); (case hr => first | (go_simp; done) | (go_simp; rfl)); intro gb42101 hg w13 hbox hb; have n0_ := Aside0.mk (below_step (by repeat (first | (with_reducible first | exact HB.out | apply below_alloc | apply pw_below_drewN | apply below_drew1) | exact HB.out)) hb); have n1_ := Aside0.mk (hbox); have n2_ := Aside0.mk ((by rw [hg]; exact (below_size (by repeat (first | (with_reducible first | exact HB.out | apply below_alloc | apply pw_below_drewN | apply below_drew1) | exact HB.out))) : w.heap.size ≤ gb42101)); have n3_ := Aside0.mk ((by rw [hg]; exact (below_size (by repeat (first | (with_reducible first | exact HB.out | apply below_alloc | apply pw_below_drewN | apply below_drew1) | exact HB.out))) : w.heap.size ≤ gb42101)); clear HB; have HB := n0_; have BK42101 := n1_; have GW42101 := n2_; have GE42101 := n3_; clear n0_ n1_ n2_ n3_; clear hb hbox hg; have hcz14_0 : w13.cell? ⟨gb42101, 0, none⟩ = some (.int .i64 a0_0) := (blk_cell BK42101.out 0).trans rfl; have hcz14_1 : w13.cell? ⟨gb42101, 1, none⟩ = some (.int .i64 a0_1) := (blk_cell BK42101.out 1).trans rfl; have hcz14_2 : w13.cell? ⟨gb42101, 2, none⟩ = some (.int .i64 a0_2) := (blk_cell BK42101.out 2).trans rfl; have hcz14_3 : w13.cell? ⟨gb42101, 3, none⟩ = some (.slice A0_3 l0_3.length c0_3) := (blk_cell BK42101.out 3).trans rfl; have hfz14_0 := blk_frozen BK42101.out 0; have hfz14_1 := blk_frozen BK42101.out 1; have hfz14_2 := blk_frozen BK42101.out 2; have hfz14_3 := blk_frozen BK42101.out 3) | ((with_reducible refine gate_callee (f := 37) rfl ?_); refine goesL_ (some 13) rfl rfl Try.func37 (by kernel_rfl) rfl #[.agg #[.int .i64 a0_0, .int .i64 a0_1, .int .i64 a0_2, .slice A0_3 l0_3.length c0_3], .int .i64 1048576] rfl (by (try simp only [List.map_toArray, List.map_cons, List.map_nil]); first | done | rfl | (simp only [List.length_drop, List.length_take]; rfl)) ?_; (with_reducible refine (laws_szBoard.calls a0_0 a0_1 a0_2 _ _ l0_3 1048576 t42102 _ ?side1 ?side2 A3.out).mono ?_); (case side1 => repeat (first | exact (Kd.C_below HR0_3.out HB.out) | (with_reducible refine Kd.C_alloc ?_ _) | (with_reducible refine Kd.C_drewN ?_ _) | (with_reducible refine Kd.C_drew ?_))); (case side2 => exact HC0_3.out); rintro e w15 ⟨rfl, hb⟩; refine ⟨_, rfl, ?_⟩; have n0_ := Aside0.mk (blk_below (g := gb42101) (o := .cells #[.int .i64 a0_0, .int .i64 a0_1, .int .i64 a0_2, .slice A0_3 l0_3.length c0_3] 24 (0, 0)) (by (with_reducible repeat (first | refine blk_drewN ?_ _ | refine blk_drew ?_ | refine blk_alloc ?_ _)); exact BK42101.out) hb); have n1_ := Aside0.mk (below_step (by repeat (first | (with_reducible first | exact HB.out | apply below_alloc | apply pw_below_drewN | apply below_drew1 | refine below_set ?_ GE42101.out) | exact HB.out)) hb); clear BK42101; clear HB; have BK42101 := n0_; have HB := n1_; clear n0_ n1_; (try clear hb); (try clear hb2); (try clear hk); (try clear hi); have hcz16_0 : w15.cell? ⟨gb42101, 0, none⟩ = some (.int .i64 a0_0) := (blk_cell BK42101.out 0).trans rfl; have hcz16_1 : w15.cell? ⟨gb42101, 1, none⟩ = some (.int .i64 a0_1) := (blk_cell BK42101.out 1).trans rfl; have hcz16_2 : w15.cell? ⟨gb42101, 2, none⟩ = some (.int .i64 a0_2) := (blk_cell BK42101.out 2).trans rfl; have hcz16_3 : w15.cell? ⟨gb42101, 3, none⟩ = some (.slice A0_3 l0_3.length c0_3) := (blk_cell BK42101.out 3).trans rfl; have hfz16_0 := blk_frozen BK42101.out 0; have hfz16_1 := blk_frozen BK42101.out 1; have hfz16_2 := blk_frozen BK42101.out 2; have hfz16_3 := blk_frozen BK42101.out 3) | ((with_reducible refine gate_callee (f := 39) rfl ?_); refine goesL_ (some 18) rfl rfl Try.func39 (by kernel_rfl) rfl #[.agg #[.int .i64 a0_0, .int .i64 a0_1, .int .i64 a0_2, .slice A0_3 l0_3.length c0_3]] rfl (by (try simp only [List.map_toArray, List.map_cons, List.map_nil]); first | done | rfl | (simp only [List.length_drop, List.length_take]; rfl)) ?_; (with_reducible refine (laws_toBoard.calls k a0_0 a0_1 a0_2 _ _ l0_3 t42103 t42104 t42105 t42106 _ ?side1 ?side2 A8.out).mono ?_); (case side1 => repeat (first | exact (Kd.C_below HR0_3.out HB.out) | (with_reducible refine Kd.C_alloc ?_ _) | (with_reducible refine Kd.C_drewN ?_ _) | (with_reducible refine Kd.C_drew ?_))); (case side2 => exact HC0_3.out); rintro e w17 ⟨v42107, rfl, ho0, hb⟩; refine ⟨_, rfl, ?_⟩; have n0_ := Aside0.mk (Kd.R_lower ho0 (below_size (by repeat (first | (with_reducible first | exact HB.out | apply below_alloc | apply pw_below_drewN | apply below_drew1 | refine below_set ?_ GE42101.out) | exact HB.out)))); have n1_ := Aside0.mk (blk_below (g := gb42101) (o := .cells #[.int .i64 a0_0, .int .i64 a0_1, .int .i64 a0_2, .slice A0_3 l0_3.length c0_3] 24 (0, 0)) (by (with_reducible repeat (first | refine blk_drewN ?_ _ | refine blk_drew ?_ | refine blk_alloc ?_ _)); exact BK42101.out) hb); have n2_ := Aside0.mk (below_step (by repeat (first | (with_reducible first | exact HB.out | apply below_alloc | apply pw_below_drewN | apply below_drew1 | refine below_set ?_ GE42101.out) | exact HB.out)) hb); clear BK42101; clear HB; have HO42108 := n0_; have BK42101 := n1_; have HB := n2_; clear n0_ n1_ n2_; (try clear hb); (try clear hb2); (try clear hk); (try clear hi); (try clear ho0); obtain ⟨Ao18, co18, eo18⟩ := Kd.R_slice HO42108.out; subst eo18) | ((with_reducible refine gate_callee (f := 91) rfl ?_); refine goesL_ (some 20) rfl rfl Try.func91 (by kernel_rfl) rfl #[.agg #[.int .i64 t42103, .int .i64 t42104, .int .i64 t42105, .slice Ao18 t42106.length co18], .int .i64 a1] rfl (by (try simp only [List.map_toArray, List.map_cons, List.map_nil]); first | done | rfl | (simp only [List.length_drop, List.length_take]; rfl)) ?_; (with_reducible refine (spec_FewestThrows.calls k t42103 t42104 t42105 _ _ t42106 a1 t42109 t42110 _ ?side1 ?side2 A9.out).mono ?_); (case side1 => repeat (first | exact (Kd.R_reads' HO42108.out).2.2 | (with_reducible refine Kd.C_alloc ?_ _) | (with_reducible refine Kd.C_drewN ?_ _) | (with_reducible refine Kd.C_drew ?_))); (case side2 => exact (Kd.R_reads' HO42108.out).2.1); rintro e w19 ⟨rfl, hb⟩; refine ⟨_, rfl, ?_⟩; have n0_ := Aside0.mk (Kd.R_below (by (with_reducible repeat (first | apply Kd.R_alloc | apply Kd.R_drewN | apply Kd.R_drew)); exact HO42108.out) hb); have n1_ := Aside0.mk (blk_below (g := gb42101) (o := .cells #[.int .i64 a0_0, .int .i64 a0_1, .int .i64 a0_2, .slice A0_3 l0_3.length c0_3] 24 (0, 0)) (by (with_reducible repeat (first | refine blk_drewN ?_ _ | refine blk_drew ?_ | refine blk_alloc ?_ _)); exact BK42101.out) hb); have n2_ := Aside0.mk (below_step (by repeat (first | (with_reducible first | exact HB.out | apply below_alloc | apply pw_below_drewN | apply below_drew1 | refine below_set ?_ GE42101.out) | exact HB.out)) hb); clear HO42108; clear BK42101; clear HB; have HO42108 := n0_; have BK42101 := n1_; have HB := n2_; clear n0_ n1_ n2_; (try clear hb); (try clear hb2); (try clear hk); (try clear hi); have hcz20_0 : w19.cell? ⟨gb42101, 0, none⟩ = some (.int .i64 a0_0) := (blk_cell BK42101.out 0).trans rfl; have hcz20_1 : w19.cell? ⟨gb42101, 1, none⟩ = some (.int .i64 a0_1) := (blk_cell BK42101.out 1).trans rfl; have hcz20_2 : w19.cell? ⟨gb42101, 2, none⟩ = some (.int .i64 a0_2) := (blk_cell BK42101.out 2).trans rfl; have hcz20_3 : w19.cell? ⟨gb42101, 3, none⟩ = some (.slice A0_3 l0_3.length c0_3) := (blk_cell BK42101.out 3).trans rfl; have hfz20_0 := blk_frozen BK42101.out 0; have hfz20_1 := blk_frozen BK42101.out 1; have hfz20_2 := blk_frozen BK42101.out 2; have hfz20_3 := blk_frozen BK42101.out 3) | ((with_reducible refine gate_callee (f := 39) rfl ?_); refine goesL_ (some 24) rfl rfl Try.func39 (by kernel_rfl) rfl #[.agg #[.int .i64 a0_0, .int .i64 a0_1, .int .i64 a0_2, .slice A0_3 l0_3.length c0_3]] rfl (by (try simp only [List.map_toArray, List.map_cons, List.map_nil]); first | done | rfl | (simp only [List.length_drop, List.length_take]; rfl)) ?_; (with_reducible refine (laws_toBoard.calls k a0_0 a0_1 a0_2 _ _ l0_3 t42111 t42112 t42113 t42114 _ ?side1 ?side2 A10.out).mono ?_); (case side1 => repeat (first | exact (Kd.C_below HR0_3.out HB.out) | (with_reducible refine Kd.C_alloc ?_ _) | (with_reducible refine Kd.C_drewN ?_ _) | (with_reducible refine Kd.C_drew ?_))); (case side2 => exact HC0_3.out); rintro e w21 ⟨v42115, rfl, ho0, hb⟩; refine ⟨_, rfl, ?_⟩; have n0_ := Aside0.mk (Kd.R_elder' (by (with_reducible repeat (first | apply Kd.R_alloc | apply Kd.R_drewN | apply Kd.R_drew)); exact HO42108.out) (Kd.R_base ho0) hb); have n1_ := Aside0.mk (Kd.R_lower (Kd.R_new' ho0 (Kd.R_lt (by (with_reducible repeat (first | apply Kd.R_alloc | apply Kd.R_drewN | apply Kd.R_drew)); exact HO42108.out))) (below_size (by repeat (first | (with_reducible first | exact HB.out | apply below_alloc | apply pw_below_drewN | apply below_drew1 | refine below_set ?_ GE42101.out) | exact HB.out)))); have n2_ := Aside0.mk (blk_below (g := gb42101) (o := .cells #[.int .i64 a0_0, .int .i64 a0_1, .int .i64 a0_2, .slice A0_3 l0_3.length c0_3] 24 (0, 0)) (by (with_reducible repeat (first | refine blk_drewN ?_ _ | refine blk_drew ?_ | refine blk_alloc ?_ _)); exact BK42101.out) hb); have n3_ := Aside0.mk (below_step (by repeat (first | (with_reducible first | exact HB.out | apply below_alloc | apply pw_below_drewN | apply below_drew1 | refine below_set ?_ GE42101.out) | exact HB.out)) hb); clear HO42108; clear BK42101; clear HB; have HO42108 := n0_; have HO42116 := n1_; have BK42101 := n2_; have HB := n3_; clear n0_ n1_ n2_ n3_; (try clear hb); (try clear hb2); (try clear hk); (try clear hi); (try clear ho0)) | ((with_reducible refine gate_dst (N := 8) rfl ?_); refine box_event ?hg (N := 8) ?hd (cs := #[.int .i64 0, .int .i64 0, .int .i64 0, .slice none 0 0]) (t := 32) ?hr ?_; (case hd => rfl); (case hg => rfl); (case hr => first | (go_simp; done) | (go_simp; rfl)); intro gb42117 hg w22 hbox hb; have n0_ := Aside0.mk (Kd.R_below (by (with_reducible repeat (first | apply Kd.R_alloc | apply Kd.R_drewN | apply Kd.R_drew)); exact HO42108.out) hb); have n1_ := Aside0.mk (Kd.R_below (by (with_reducible repeat (first | apply Kd.R_alloc | apply Kd.R_drewN | apply Kd.R_drew)); exact HO42116.out) hb); have n2_ := Aside0.mk (blk_below (g := gb42101) (o := .cells #[.int .i64 a0_0, .int .i64 a0_1, .int .i64 a0_2, .slice A0_3 l0_3.length c0_3] 24 (0, 0)) (by (with_reducible repeat (first | refine blk_drewN ?_ _ | refine blk_drew ?_ | refine blk_alloc ?_ _)); exact BK42101.out) hb); have n3_ := Aside0.mk (below_step (by repeat (first | (with_reducible first | exact HB.out | apply below_alloc | apply pw_below_drewN | apply below_drew1 | refine below_set ?_ GE42101.out) | exact HB.out)) hb); have n4_ := Aside0.mk (hbox); have n5_ := Aside0.mk ((by rw [hg]; exact (below_size (by repeat (first | (with_reducible first | exact HB.out | apply below_alloc | apply pw_below_drewN | apply below_drew1 | refine below_set ?_ GE42101.out) | exact HB.out))) : w.heap.size ≤ gb42117)); have n6_ := Aside0.mk ((by rw [hg]; exact (below_size (by repeat (first | (with_reducible first | exact HB.out | apply below_alloc | apply pw_below_drewN | apply below_drew1 | refine below_set ?_ GE42101.out) | exact HB.out))) : w.heap.size ≤ gb42117)); have n7_ := Aside0.mk ((by rw [hg]; exact Nat.ne_of_lt (blk_lt (g := gb42101) (o := .cells #[.int .i64 a0_0, .int .i64 a0_1, .int .i64 a0_2, .slice A0_3 l0_3.length c0_3] 24 (0, 0)) (by (with_reducible repeat (first | refine blk_drewN ?_ _ | refine blk_drew ?_ | refine blk_alloc ?_ _)); exact BK42101.out)) : gb42101 ≠ gb42117)); have n8_ := Aside0.mk ((by rw [hg]; exact Nat.ne_of_gt (blk_lt (g := gb42101) (o := .cells #[.int .i64 a0_0, .int .i64 a0_1, .int .i64 a0_2, .slice A0_3 l0_3.length c0_3] 24 (0, 0)) (by (with_reducible repeat (first | refine blk_drewN ?_ _ | refine blk_drew ?_ | refine blk_alloc ?_ _)); exact BK42101.out)) : gb42117 ≠ gb42101)); clear HO42108; clear HO42116; clear BK42101; clear HB; have HO42108 := n0_; have HO42116 := n1_; have BK42101 := n2_; have HB := n3_; have BK42117 := n4_; have GW42117 := n5_; have GE42117 := n6_; have NB42101_42117 := n7_; have NB42117_42101 := n8_; clear n0_ n1_ n2_ n3_ n4_ n5_ n6_ n7_ n8_; clear hb hbox hg; have hnb23 := NB42117_42101.out; have hnc23 := NB42101_42117.out; have hcz24_0 : w22.cell? ⟨gb42117, 0, none⟩ = some (.int .i64 0) := (blk_cell BK42117.out 0).trans rfl; have hcz24_1 : w22.cell? ⟨gb42117, 1, none⟩ = some (.int .i64 0) := (blk_cell BK42117.out 1).trans rfl; have hcz24_2 : w22.cell? ⟨gb42117, 2, none⟩ = some (.int .i64 0) := (blk_cell BK42117.out 2).trans rfl; have hcz24_3 : w22.cell? ⟨gb42117, 3, none⟩ = some (.slice none 0 0) := (blk_cell BK42117.out 3).trans rfl; have hfz24_0 := blk_frozen BK42117.out 0; have hfz24_1 := blk_frozen BK42117.out 1; have hfz24_2 := blk_frozen BK42117.out 2; have hfz24_3 := blk_frozen BK42117.out 3; obtain ⟨Ao25, co25, eo25⟩ := Kd.R_slice HO42116.out; subst eo25) | ((with_reducible refine gate_callee (f := 92) rfl ?_); refine goesL_ (some 28) rfl rfl Try.func92 (by kernel_rfl) rfl #[.agg #[.int .i64 t42111, .int .i64 t42112, .int .i64 t42113, .slice Ao25 t42114.length co25], .int .i64 a1] rfl (by (try simp only [List.map_toArray, List.map_cons, List.map_nil]); first | done | rfl | (simp only [List.length_drop, List.length_take]; rfl)) ?_; (with_reducible refine (impl_FewestThrows.calls k t42111 t42112 t42113 _ _ t42114 a1 t42118 t42119 _ ?side1 ?side2 A11.out).mono ?_); (case side1 => refine (Kd.R_reads' (e := 27) (base := w.heap.size) (ok := fun k_ => (True ∧ some k_ ≠ (.slice Ao18 t42106.length co18 : Value).ownBlock)) (n := t42114.length) (c := co25) ?_).2.2; exact (by (with_reducible repeat (first | apply Kd.R_alloc | apply Kd.R_drewN | apply Kd.R_drew)); exact (Kd.R_mono (Kd.R_far (p := ⟨gb42117, 3, none⟩) (Kd.R_far (p := ⟨gb42117, 2, none⟩) (Kd.R_far (p := ⟨gb42117, 1, none⟩) (Kd.R_far (p := ⟨gb42117, 0, none⟩) (Kd.R_types HO42116.out BK42117.out (by decide)) (fun _ hk => hk.2) (.int .i64 t42111)) (fun _ hk => hk.2) (.int .i64 t42112)) (fun _ hk => hk.2) (.int .i64 t42113)) (fun _ hk => hk.2) (.slice Ao25 t42114.length co25)) (fun _ h_ => h_.1)))); (case side2 => exact (Kd.R_reads' HO42116.out).2.1); rintro e w26 ⟨rfl, hb⟩; refine ⟨_, rfl, ?_⟩; have n0_ := Aside0.mk (Kd.R_below (by (with_reducible repeat (first | apply Kd.R_alloc | apply Kd.R_drewN | apply Kd.R_drew)); exact (Kd.R_mono (Kd.R_far (p := ⟨gb42117, 3, none⟩) (Kd.R_far (p := ⟨gb42117, 2, none⟩) (Kd.R_far (p := ⟨gb42117, 1, none⟩) (Kd.R_far (p := ⟨gb42117, 0, none⟩) (Kd.R_types HO42108.out BK42117.out (by decide)) (fun _ hk => hk.2) (.int .i64 t42111)) (fun _ hk => hk.2) (.int .i64 t42112)) (fun _ hk => hk.2) (.int .i64 t42113)) (fun _ hk => hk.2) (.slice Ao25 t42114.length co25)) (fun _ h_ => h_.1))) hb); have n1_ := Aside0.mk (Kd.R_below (by (with_reducible repeat (first | apply Kd.R_alloc | apply Kd.R_drewN | apply Kd.R_drew)); exact (Kd.R_mono (Kd.R_far (p := ⟨gb42117, 3, none⟩) (Kd.R_far (p := ⟨gb42117, 2, none⟩) (Kd.R_far (p := ⟨gb42117, 1, none⟩) (Kd.R_far (p := ⟨gb42117, 0, none⟩) (Kd.R_types HO42116.out BK42117.out (by decide)) (fun _ hk => hk.2) (.int .i64 t42111)) (fun _ hk => hk.2) (.int .i64 t42112)) (fun _ hk => hk.2) (.int .i64 t42113)) (fun _ hk => hk.2) (.slice Ao25 t42114.length co25)) (fun _ h_ => h_.1))) hb); have n2_ := Aside0.mk (blk_below (g := gb42101) (o := .cells #[.int .i64 a0_0, .int .i64 a0_1, .int .i64 a0_2, .slice A0_3 l0_3.length c0_3] 24 (0, 0)) (by (with_reducible repeat (first | refine blk_drewN ?_ _ | refine blk_drew ?_ | refine blk_alloc ?_ _)); refine blk_far ?_ NB42101_42117.out _; (with_reducible repeat (first | refine blk_drewN ?_ _ | refine blk_drew ?_ | refine blk_alloc ?_ _)); refine blk_far ?_ NB42101_42117.out _; (with_reducible repeat (first | refine blk_drewN ?_ _ | refine blk_drew ?_ | refine blk_alloc ?_ _)); refine blk_far ?_ NB42101_42117.out _; (with_reducible repeat (first | refine blk_drewN ?_ _ | refine blk_drew ?_ | refine blk_alloc ?_ _)); refine blk_far ?_ NB42101_42117.out _; (with_reducible repeat (first | refine blk_drewN ?_ _ | refine blk_drew ?_ | refine blk_alloc ?_ _)); exact BK42101.out) hb); have n3_ := Aside0.mk (blk_below (g := gb42117) (o := .cells #[.int .i64 t42111, .int .i64 t42112, .int .i64 t42113, .slice Ao25 t42114.length co25] 32 (0, 0)) (by (with_reducible repeat (first | refine blk_drewN ?_ _ | refine blk_drew ?_ | refine blk_alloc ?_ _)); refine blk_put (cs := #[.int .i64 t42111, .int .i64 t42112, .int .i64 t42113, .slice none 0 0]) ?_ 3 _ rfl; (with_reducible repeat (first | refine blk_drewN ?_ _ | refine blk_drew ?_ | refine blk_alloc ?_ _)); refine blk_put (cs := #[.int .i64 t42111, .int .i64 t42112, .int .i64 0, .slice none 0 0]) ?_ 2 _ rfl; (with_reducible repeat (first | refine blk_drewN ?_ _ | refine blk_drew ?_ | refine blk_alloc ?_ _)); refine blk_put (cs := #[.int .i64 t42111, .int .i64 0, .int .i64 0, .slice none 0 0]) ?_ 1 _ rfl; (with_reducible repeat (first | refine blk_drewN ?_ _ | refine blk_drew ?_ | refine blk_alloc ?_ _)); refine blk_put (cs := #[.int .i64 0, .int .i64 0, .int .i64 0, .slice none 0 0]) ?_ 0 _ rfl; (with_reducible repeat (first | refine blk_drewN ?_ _ | refine blk_drew ?_ | refine blk_alloc ?_ _)); exact BK42117.out) hb); have n4_ := Aside0.mk (below_step (by repeat (first | (with_reducible first | exact HB.out | apply below_alloc | apply pw_below_drewN | apply below_drew1 | refine below_set ?_ GE42101.out | refine below_set ?_ GE42117.out) | exact HB.out)) hb); clear HO42108; clear HO42116; clear BK42101; clear BK42117; clear HB; have HO42108 := n0_; have HO42116 := n1_; have BK42101 := n2_; have BK42117 := n3_; have HB := n4_; clear n0_ n1_ n2_ n3_ n4_; (try clear hb); (try clear hb2); (try clear hk); (try clear hi)))
  (try simp only [Act.put, List.setIfInBounds_toArray, List.set_cons_zero, List.set_cons_succ])
  go_cut [38] (fun v38 wc => ∃ (kq : Nat) (x38_11 : Bool), v38 = .bool x38_11 ∧ Aside0 (laws_FnExactFewestThrows.j0 kq x38_11 a0_0 a0_1 a0_2 l0_3 t42111 t42112 t42113 t42114 = some r) ∧ Aside0 (kq ≤ k) ∧ Aside0 (Kd.R k27 27 wc w.heap.size (fun _ => True) (.slice Ao25 t42114.length co25) t42114) ∧ Aside0 (wc.heap[gb42101]? = some (.cells #[.int .i64 a0_0, .int .i64 a0_1, .int .i64 a0_2, (.slice A0_3 l0_3.length c0_3)] 24 (0, 0))) ∧ Aside0 (wc.heap[gb42117]? = some (.cells #[.int .i64 t42111, .int .i64 t42112, .int .i64 t42113, (.slice Ao25 t42114.length co25)] 32 (0, 0))) ∧ Aside0 (Below w.heap.size w wc))
  case first =>
   have H := HC12.out
   clear HC12
   by_cases c27 : t42118 = t42109
   ·rw [if_pos c27] at H
    have c27b0 : (t42118 == t42109) = true := beq_iff_eq.mpr c27
    have c27b1 : (t42118 != t42109) = false := bne_eq_false_iff_eq.mpr c27
    clear c27
    (first | rw [c27b0] | (simp only [i64_w, i32_w]; rw [c27b0]) | skip)
    have H' := Aside0.mk H
    clear H
    go_wp2
    go_meet
    case rel => exact ⟨_, ((t42119 != t42110)), (by first | rfl | (simp; done) | (simp [*]; done)), H', ⟨by first | omega | exact Nat.le_refl _⟩, ⟨by (with_reducible repeat (first | apply Kd.R_alloc | apply Kd.R_drewN | apply Kd.R_drew)); exact Kd.R_mono HO42116.out (fun _ hk => trivial)⟩, ⟨by (with_reducible repeat (first | refine blk_drewN ?_ _ | refine blk_drew ?_ | refine blk_alloc ?_ _)); exact BK42101.out⟩, ⟨by (with_reducible repeat (first | refine blk_drewN ?_ _ | refine blk_drew ?_ | refine blk_alloc ?_ _)); exact BK42117.out⟩, ⟨by repeat (first | (with_reducible first | exact HB.out | apply below_alloc | apply pw_below_drewN | apply below_drew1 | refine below_set ?_ GE42101.out | refine below_set ?_ GE42117.out) | exact HB.out)⟩⟩
   ·rw [if_neg c27] at H
    have c27b0 : (t42118 == t42109) = false := beq_eq_false_iff_ne.mpr c27
    have c27b1 : (t42118 != t42109) = true := bne_iff_ne.mpr c27
    (first | rw [c27b0] | (simp only [i64_w, i32_w]; rw [c27b0]) | skip)
    have H' := Aside0.mk H
    clear H
    go_wp2
    go_meet
    case rel => exact ⟨_, (true), (by first | rfl | (simp; done) | (simp [*]; done)), H', ⟨by first | omega | exact Nat.le_refl _⟩, ⟨by (with_reducible repeat (first | apply Kd.R_alloc | apply Kd.R_drewN | apply Kd.R_drew)); exact Kd.R_mono HO42116.out (fun _ hk => trivial)⟩, ⟨by (with_reducible repeat (first | refine blk_drewN ?_ _ | refine blk_drew ?_ | refine blk_alloc ?_ _)); exact BK42101.out⟩, ⟨by (with_reducible repeat (first | refine blk_drewN ?_ _ | refine blk_drew ?_ | refine blk_alloc ?_ _)); exact BK42117.out⟩, ⟨by repeat (first | (with_reducible first | exact HB.out | apply below_alloc | apply pw_below_drewN | apply below_drew1 | refine below_set ?_ GE42101.out | refine below_set ?_ GE42117.out) | exact HB.out)⟩⟩
  case rest =>
   clear HC12
   try clear c2
   try clear p2
   try clear c3
   try clear c4
   try clear c4b0
   try clear c9
   try clear c21
   try clear c23
   try clear c27
   try clear c27b0
   try clear c27b1
   try clear hcz14_0
   try clear hcz14_1
   try clear hcz14_2
   try clear hcz14_3
   try clear hcz16_0
   try clear hcz16_1
   try clear hcz16_2
   try clear hcz16_3
   try clear hcz20_0
   try clear hcz20_1
   try clear hcz20_2
   try clear hcz20_3
   try clear hcz24_0
   try clear hcz24_1
   try clear hcz24_2
   try clear hcz24_3
   try clear hcz6_0
   try clear hcz6_1
   try clear hcz6_2
   try clear hcz6_3
   try clear hfz14_0
   try clear hfz14_1
   try clear hfz14_2
   try clear hfz14_3
   try clear hfz16_0
   try clear hfz16_1
   try clear hfz16_2
   try clear hfz16_3
   try clear hfz20_0
   try clear hfz20_1
   try clear hfz20_2
   try clear hfz20_3
   try clear hfz24_0
   try clear hfz24_1
   try clear hfz24_2
   try clear hfz24_3
   try clear hfz6_0
   try clear hfz6_1
   try clear hfz6_2
   try clear hfz6_3
   obtain ⟨kq, x38_11, rfl, HA, HJ11, HO_42118003, BK42101, BK42117, HB⟩ := hcut
   cases kq with
   | zero => exact absurd HA.out (by simp [laws_FnExactFewestThrows.j0])
   | succ kj11 =>
    have H := HA.out
    clear HA
    simp only [laws_FnExactFewestThrows.j0] at H
    by_cases c28 : x38_11 = true
    ·subst c28
     have H1 : (some false) = some r := by rw [if_pos rfl] at H; exact H
     clear H
     have H := H1
     clear H1
     obtain rfl := Option.some.inj H
     go_wp2
     go_ret
     exact ⟨by first | rfl | (simp [errW_none, errW_some] <;> rfl) | (simp [*, errW_none, errW_some] <;> rfl), by repeat (first | (with_reducible first | exact HB.out | apply below_alloc | apply pw_below_drewN | apply below_drew1 | refine below_set ?_ GE42101.out | refine below_set ?_ GE42117.out) | exact HB.out)⟩
    ·replace c28 := Bool.eq_false_iff.mpr c28
     subst c28
     have H1 : ((laws_toBoard.f kj11 a0_0 a0_1 a0_2 l0_3).bind fun bt42120 => ((laws_eqBoard.f kj11 t42111 t42112 t42113 t42114 bt42120.1 bt42120.2.1 bt42120.2.2.1 bt42120.2.2.2).bind fun t42126 => (if t42126 = true then (some true) else (some false)))) = some r := by rw [if_neg (show ¬ (false = true) by decide)] at H; exact H
     clear H
     have H := H1
     clear H1
     replace H := Option.bind_eq_some_iff.mp H
     obtain ⟨⟨t42120, t42121, t42122, t42123⟩, A290, H⟩ := H
     replace H : ((laws_eqBoard.f kj11 t42111 t42112 t42113 t42114 t42120 t42121 t42122 t42123).bind fun t42126 => (if t42126 = true then (some true) else (some false))) = some r := H
     have A29 := Aside0.mk A290
     clear A290
     replace H := Option.bind_eq_some_iff.mp H
     obtain ⟨t42126, A300, H⟩ := H
     replace H : (if t42126 = true then (some true) else (some false)) = some r := H
     have A30 := Aside0.mk A300
     clear A300
     by_cases c31 : t42126 = true
     ·subst c31
      have H1 : (some true) = some r := by rw [if_pos rfl] at H; exact H
      clear H
      have H := H1
      clear H1
      obtain rfl := Option.some.inj H
      try go_wp2
      have n0_ := Aside0.mk (Kd.R_drew HO_42118003.out)
      have n1_ := Aside0.mk (blk_drew BK42101.out)
      have n2_ := Aside0.mk (blk_drew BK42117.out)
      have n3_ := Aside0.mk (below_drew1 HB.out)
      clear HO_42118003
      clear BK42101
      clear BK42117
      clear HB
      have HO_42118003 := n0_
      have BK42101 := n1_
      have BK42117 := n2_
      have HB := n3_
      clear n0_ n1_ n2_ n3_
      refine start_ (n := 5) (S := fun w' => w'.cell? ⟨gb42117, 0, none⟩ = some (.int .i64 t42111) ∧ w'.cell? ⟨gb42117, 1, none⟩ = some (.int .i64 t42112) ∧ w'.cell? ⟨gb42117, 2, none⟩ = some (.int .i64 t42113) ∧ w'.cell? ⟨gb42117, 3, none⟩ = some (.slice Ao25 t42114.length co25) ∧ w'.cell? ⟨gb42101, 0, none⟩ = some (.int .i64 a0_0) ∧ w'.cell? ⟨gb42101, 1, none⟩ = some (.int .i64 a0_1) ∧ w'.cell? ⟨gb42101, 2, none⟩ = some (.int .i64 a0_2) ∧ w'.cell? ⟨gb42101, 3, none⟩ = some (.slice A0_3 l0_3.length c0_3)) (ds := []) #[false, false, false, false, false] (by kernel_rfl) rfl rfl ⟨(blk_cell BK42117.out 0).trans rfl, (blk_cell BK42117.out 1).trans rfl, (blk_cell BK42117.out 2).trans rfl, (blk_cell BK42117.out 3).trans rfl, (blk_cell BK42101.out 0).trans rfl, (blk_cell BK42101.out 1).trans rfl, (blk_cell BK42101.out 2).trans rfl, (blk_cell BK42101.out 3).trans rfl⟩ (fun hHeld => ?_)
      generalize wc.drew = w32 at HO_42118003 BK42101 BK42117 HB hHeld ⊢
      refine take_ (i := 0) (N := some 39) (v := ?_) (a' := ?_) #[true, false, false, false, false] rfl rfl (by kernel_rfl) (fun _ _ _ h => h) (Or.inl ⟨by rfl, ?_⟩) hHeld ?_ ?_
      rotate_left
      ·rintro w' ⟨s0, s1, s2, s3, s4, s5, s6, s7⟩
       go_simp
       with_reducible rfl
      rotate_left
      ·simp only [Act.put, List.setIfInBounds_toArray, List.set_cons_zero, List.set_cons_succ, i64_w, i32_w]
       rfl
      refine take_ (i := 1) (N := some 40) (v := ?_) (a' := ?_) #[true, true, false, false, false] rfl rfl (by kernel_rfl) (fun _ _ _ h => h) (Or.inl ⟨by rfl, ?_⟩) hHeld ?_ ?_
      rotate_left
      ·rintro w' ⟨s0, s1, s2, s3, s4, s5, s6, s7⟩
       go_simp
       with_reducible rfl
      rotate_left
      ·simp only [Act.put, List.setIfInBounds_toArray, List.set_cons_zero, List.set_cons_succ, i64_w, i32_w]
       rfl
      refine one_ (i := 2) (N := some 41) #[true, true, true, false, false] rfl rfl (by kernel_rfl) (by decide) (fun K hK => ?_)
      refine goes_ Try.func39 (by kernel_rfl) rfl #[.agg #[.int .i64 a0_0, .int .i64 a0_1, .int .i64 a0_2, .slice A0_3 l0_3.length c0_3]] (by rfl) rfl rfl (by (try simp only [List.map_toArray, List.map_cons, List.map_nil]); first | done | rfl | (simp only [List.length_drop, List.length_take]; rfl)) ?_
      with_reducible refine (laws_toBoard.calls kj11 a0_0 a0_1 a0_2 _ _ l0_3 t42120 t42121 t42122 t42123 _ ?side1 ?side2 A29.out).mono ?_
      (case side1 => repeat (first | exact (Kd.C_below HR0_3.out HB.out) | (with_reducible refine Kd.C_alloc ?_ _) | (with_reducible refine Kd.C_drewN ?_ _) | (with_reducible refine Kd.C_drew ?_)))
      (case side2 => exact HC0_3.out)
      rintro e w33 ⟨v42124, rfl, ho0, hb⟩
      refine ⟨_, rfl, ?_⟩
      have n0_ := Aside0.mk (Kd.R_elder' (by (with_reducible repeat (first | apply Kd.R_alloc | apply Kd.R_drewN | apply Kd.R_drew)); exact HO_42118003.out) (Kd.R_base ho0) hb)
      have n1_ := Aside0.mk (Kd.R_lower (Kd.R_new' ho0 (Kd.R_lt (by (with_reducible repeat (first | apply Kd.R_alloc | apply Kd.R_drewN | apply Kd.R_drew)); exact HO_42118003.out))) (below_size (by repeat (first | (with_reducible first | exact HB.out | apply below_alloc | apply pw_below_drewN | apply below_drew1 | refine below_set ?_ GE42101.out | refine below_set ?_ GE42117.out) | exact HB.out))))
      have n2_ := Aside0.mk (blk_below (g := gb42101) (o := .cells #[.int .i64 a0_0, .int .i64 a0_1, .int .i64 a0_2, .slice A0_3 l0_3.length c0_3] 24 (0, 0)) (by (with_reducible repeat (first | refine blk_drewN ?_ _ | refine blk_drew ?_ | refine blk_alloc ?_ _)); exact BK42101.out) hb)
      have n3_ := Aside0.mk (blk_below (g := gb42117) (o := .cells #[.int .i64 t42111, .int .i64 t42112, .int .i64 t42113, .slice Ao25 t42114.length co25] 32 (0, 0)) (by (with_reducible repeat (first | refine blk_drewN ?_ _ | refine blk_drew ?_ | refine blk_alloc ?_ _)); exact BK42117.out) hb)
      have n4_ := Aside0.mk (below_step (by repeat (first | (with_reducible first | exact HB.out | apply below_alloc | apply pw_below_drewN | apply below_drew1 | refine below_set ?_ GE42101.out | refine below_set ?_ GE42117.out) | exact HB.out)) hb)
      clear HO_42118003
      clear BK42101
      clear BK42117
      clear HB
      have HO_42118003 := n0_
      have HO42125 := n1_
      have BK42101 := n2_
      have BK42117 := n3_
      have HB := n4_
      clear n0_ n1_ n2_ n3_ n4_
      (try clear hb)
      (try clear hb2)
      (try clear hk)
      (try clear hi)
      (try clear ho0)
      obtain ⟨Ao34, co34, eo34⟩ := Kd.R_slice HO42125.out
      (first | subst eo34 | (injection eo34 with f1_ f2_ f3_; have f4_ := f1_.symm; have f5_ := f3_.symm; clear f1_ f2_ f3_; subst f4_; subst f5_))
      refine hK.out _ _ ⟨(blk_cell BK42117.out 0).trans rfl, (blk_cell BK42117.out 1).trans rfl, (blk_cell BK42117.out 2).trans rfl, (blk_cell BK42117.out 3).trans rfl, (blk_cell BK42101.out 0).trans rfl, (blk_cell BK42101.out 1).trans rfl, (blk_cell BK42101.out 2).trans rfl, (blk_cell BK42101.out 3).trans rfl⟩ (fun hHeld => ?_)
      clear hK K
      refine norm_ (a' := ?_) ?_ ?_
      rotate_left
      ·show Act.put _ (some 41) _ = _
       simp only [Act.put, List.setIfInBounds_toArray, List.set_cons_zero, List.set_cons_succ, i64_w, i32_w]
       rfl
      refine one_ (i := 3) (N := some 42) #[true, true, true, true, false] rfl rfl (by kernel_rfl) (by decide) (fun K hK => ?_)
      refine goes_ Try.func42 (by kernel_rfl) rfl #[.agg #[.int .i64 t42111, .int .i64 t42112, .int .i64 t42113, .slice Ao25 t42114.length co25], .agg #[.int .i64 t42120, .int .i64 t42121, .int .i64 t42122, .slice Ao34 t42123.length co34]] (by rfl) rfl rfl (by (try simp only [List.map_toArray, List.map_cons, List.map_nil]); first | done | rfl | (simp only [List.length_drop, List.length_take]; rfl)) ?_
      with_reducible refine (laws_eqBoard.calls kj11 t42111 t42112 t42113 _ _ t42114 t42120 t42121 t42122 _ _ t42123 true _ ?side1 ?side2 ?side3 ?side4 A30.out).mono ?_
      (case side1 => repeat (first | exact (Kd.R_reads' HO_42118003.out).2.2 | (with_reducible refine Kd.C_alloc ?_ _) | (with_reducible refine Kd.C_drewN ?_ _) | (with_reducible refine Kd.C_drew ?_)))
      (case side2 => exact (Kd.R_reads' HO_42118003.out).2.1)
      (case side3 => repeat (first | exact (Kd.R_reads' HO42125.out).2.2 | (with_reducible refine Kd.C_alloc ?_ _) | (with_reducible refine Kd.C_drewN ?_ _) | (with_reducible refine Kd.C_drew ?_)))
      (case side4 => exact (Kd.R_reads' HO42125.out).2.1)
      rintro e w35 ⟨rfl, hb⟩
      refine ⟨_, rfl, ?_⟩
      have n0_ := Aside0.mk (Kd.R_below (by (with_reducible repeat (first | apply Kd.R_alloc | apply Kd.R_drewN | apply Kd.R_drew)); exact HO_42118003.out) hb)
      have n1_ := Aside0.mk (Kd.R_below (by (with_reducible repeat (first | apply Kd.R_alloc | apply Kd.R_drewN | apply Kd.R_drew)); exact HO42125.out) hb)
      have n2_ := Aside0.mk (blk_below (g := gb42101) (o := .cells #[.int .i64 a0_0, .int .i64 a0_1, .int .i64 a0_2, .slice A0_3 l0_3.length c0_3] 24 (0, 0)) (by (with_reducible repeat (first | refine blk_drewN ?_ _ | refine blk_drew ?_ | refine blk_alloc ?_ _)); exact BK42101.out) hb)
      have n3_ := Aside0.mk (blk_below (g := gb42117) (o := .cells #[.int .i64 t42111, .int .i64 t42112, .int .i64 t42113, .slice Ao25 t42114.length co25] 32 (0, 0)) (by (with_reducible repeat (first | refine blk_drewN ?_ _ | refine blk_drew ?_ | refine blk_alloc ?_ _)); exact BK42117.out) hb)
      have n4_ := Aside0.mk (below_step (by repeat (first | (with_reducible first | exact HB.out | apply below_alloc | apply pw_below_drewN | apply below_drew1 | refine below_set ?_ GE42101.out | refine below_set ?_ GE42117.out) | exact HB.out)) hb)
      clear HO_42118003
      clear HO42125
      clear BK42101
      clear BK42117
      clear HB
      have HO_42118003 := n0_
      have HO42125 := n1_
      have BK42101 := n2_
      have BK42117 := n3_
      have HB := n4_
      clear n0_ n1_ n2_ n3_ n4_
      (try clear hb)
      (try clear hb2)
      (try clear hk)
      (try clear hi)
      refine hK.out _ _ ⟨(blk_cell BK42117.out 0).trans rfl, (blk_cell BK42117.out 1).trans rfl, (blk_cell BK42117.out 2).trans rfl, (blk_cell BK42117.out 3).trans rfl, (blk_cell BK42101.out 0).trans rfl, (blk_cell BK42101.out 1).trans rfl, (blk_cell BK42101.out 2).trans rfl, (blk_cell BK42101.out 3).trans rfl⟩ (fun hHeld => ?_)
      clear hK K
      refine norm_ (a' := ?_) ?_ ?_
      rotate_left
      ·show Act.put _ (some 42) _ = _
       simp only [Act.put, List.setIfInBounds_toArray, List.set_cons_zero, List.set_cons_succ, i64_w, i32_w]
       rfl
      refine pure_ (i := 4) (N := some 43) (v := ?_) (a' := ?_) #[true, true, true, true, true] rfl rfl (by kernel_rfl) (fun _ _ _ h => h) (Or.inl ⟨by rfl, ?_⟩) ?_ ?_
      rotate_left
      ·intro w'
       go_simp
       with_reducible rfl
      rotate_left
      ·simp only [Act.put, List.setIfInBounds_toArray, List.set_cons_zero, List.set_cons_succ, i64_w, i32_w]
       rfl
      refine done_ (by kernel_rfl) ?_
      try go_wp2
      go_ret
      exact ⟨by first | rfl | (simp [errW_none, errW_some] <;> rfl) | (simp [*, errW_none, errW_some] <;> rfl), by repeat (first | (with_reducible first | exact HB.out | apply below_alloc | apply pw_below_drewN | apply below_drew1 | refine below_set ?_ GE42101.out | refine below_set ?_ GE42117.out) | exact HB.out)⟩
     ·replace c31 := Bool.eq_false_iff.mpr c31
      subst c31
      have H1 : (some false) = some r := by rw [if_neg (show ¬ (false = true) by decide)] at H; exact H
      clear H
      have H := H1
      clear H1
      obtain rfl := Option.some.inj H
      try go_wp2
      have n0_ := Aside0.mk (Kd.R_drew HO_42118003.out)
      have n1_ := Aside0.mk (blk_drew BK42101.out)
      have n2_ := Aside0.mk (blk_drew BK42117.out)
      have n3_ := Aside0.mk (below_drew1 HB.out)
      clear HO_42118003
      clear BK42101
      clear BK42117
      clear HB
      have HO_42118003 := n0_
      have BK42101 := n1_
      have BK42117 := n2_
      have HB := n3_
      clear n0_ n1_ n2_ n3_
      refine start_ (n := 5) (S := fun w' => w'.cell? ⟨gb42117, 0, none⟩ = some (.int .i64 t42111) ∧ w'.cell? ⟨gb42117, 1, none⟩ = some (.int .i64 t42112) ∧ w'.cell? ⟨gb42117, 2, none⟩ = some (.int .i64 t42113) ∧ w'.cell? ⟨gb42117, 3, none⟩ = some (.slice Ao25 t42114.length co25) ∧ w'.cell? ⟨gb42101, 0, none⟩ = some (.int .i64 a0_0) ∧ w'.cell? ⟨gb42101, 1, none⟩ = some (.int .i64 a0_1) ∧ w'.cell? ⟨gb42101, 2, none⟩ = some (.int .i64 a0_2) ∧ w'.cell? ⟨gb42101, 3, none⟩ = some (.slice A0_3 l0_3.length c0_3)) (ds := []) #[false, false, false, false, false] (by kernel_rfl) rfl rfl ⟨(blk_cell BK42117.out 0).trans rfl, (blk_cell BK42117.out 1).trans rfl, (blk_cell BK42117.out 2).trans rfl, (blk_cell BK42117.out 3).trans rfl, (blk_cell BK42101.out 0).trans rfl, (blk_cell BK42101.out 1).trans rfl, (blk_cell BK42101.out 2).trans rfl, (blk_cell BK42101.out 3).trans rfl⟩ (fun hHeld => ?_)
      generalize wc.drew = w36 at HO_42118003 BK42101 BK42117 HB hHeld ⊢
      refine take_ (i := 0) (N := some 39) (v := ?_) (a' := ?_) #[true, false, false, false, false] rfl rfl (by kernel_rfl) (fun _ _ _ h => h) (Or.inl ⟨by rfl, ?_⟩) hHeld ?_ ?_
      rotate_left
      ·rintro w' ⟨s0, s1, s2, s3, s4, s5, s6, s7⟩
       go_simp
       with_reducible rfl
      rotate_left
      ·simp only [Act.put, List.setIfInBounds_toArray, List.set_cons_zero, List.set_cons_succ, i64_w, i32_w]
       rfl
      refine take_ (i := 1) (N := some 40) (v := ?_) (a' := ?_) #[true, true, false, false, false] rfl rfl (by kernel_rfl) (fun _ _ _ h => h) (Or.inl ⟨by rfl, ?_⟩) hHeld ?_ ?_
      rotate_left
      ·rintro w' ⟨s0, s1, s2, s3, s4, s5, s6, s7⟩
       go_simp
       with_reducible rfl
      rotate_left
      ·simp only [Act.put, List.setIfInBounds_toArray, List.set_cons_zero, List.set_cons_succ, i64_w, i32_w]
       rfl
      refine one_ (i := 2) (N := some 41) #[true, true, true, false, false] rfl rfl (by kernel_rfl) (by decide) (fun K hK => ?_)
      refine goes_ Try.func39 (by kernel_rfl) rfl #[.agg #[.int .i64 a0_0, .int .i64 a0_1, .int .i64 a0_2, .slice A0_3 l0_3.length c0_3]] (by rfl) rfl rfl (by (try simp only [List.map_toArray, List.map_cons, List.map_nil]); first | done | rfl | (simp only [List.length_drop, List.length_take]; rfl)) ?_
      with_reducible refine (laws_toBoard.calls kj11 a0_0 a0_1 a0_2 _ _ l0_3 t42120 t42121 t42122 t42123 _ ?side1 ?side2 A29.out).mono ?_
      (case side1 => repeat (first | exact (Kd.C_below HR0_3.out HB.out) | (with_reducible refine Kd.C_alloc ?_ _) | (with_reducible refine Kd.C_drewN ?_ _) | (with_reducible refine Kd.C_drew ?_)))
      (case side2 => exact HC0_3.out)
      rintro e w37 ⟨v42124, rfl, ho0, hb⟩
      refine ⟨_, rfl, ?_⟩
      have n0_ := Aside0.mk (Kd.R_elder' (by (with_reducible repeat (first | apply Kd.R_alloc | apply Kd.R_drewN | apply Kd.R_drew)); exact HO_42118003.out) (Kd.R_base ho0) hb)
      have n1_ := Aside0.mk (Kd.R_lower (Kd.R_new' ho0 (Kd.R_lt (by (with_reducible repeat (first | apply Kd.R_alloc | apply Kd.R_drewN | apply Kd.R_drew)); exact HO_42118003.out))) (below_size (by repeat (first | (with_reducible first | exact HB.out | apply below_alloc | apply pw_below_drewN | apply below_drew1 | refine below_set ?_ GE42101.out | refine below_set ?_ GE42117.out) | exact HB.out))))
      have n2_ := Aside0.mk (blk_below (g := gb42101) (o := .cells #[.int .i64 a0_0, .int .i64 a0_1, .int .i64 a0_2, .slice A0_3 l0_3.length c0_3] 24 (0, 0)) (by (with_reducible repeat (first | refine blk_drewN ?_ _ | refine blk_drew ?_ | refine blk_alloc ?_ _)); exact BK42101.out) hb)
      have n3_ := Aside0.mk (blk_below (g := gb42117) (o := .cells #[.int .i64 t42111, .int .i64 t42112, .int .i64 t42113, .slice Ao25 t42114.length co25] 32 (0, 0)) (by (with_reducible repeat (first | refine blk_drewN ?_ _ | refine blk_drew ?_ | refine blk_alloc ?_ _)); exact BK42117.out) hb)
      have n4_ := Aside0.mk (below_step (by repeat (first | (with_reducible first | exact HB.out | apply below_alloc | apply pw_below_drewN | apply below_drew1 | refine below_set ?_ GE42101.out | refine below_set ?_ GE42117.out) | exact HB.out)) hb)
      clear HO_42118003
      clear BK42101
      clear BK42117
      clear HB
      have HO_42118003 := n0_
      have HO42125 := n1_
      have BK42101 := n2_
      have BK42117 := n3_
      have HB := n4_
      clear n0_ n1_ n2_ n3_ n4_
      (try clear hb)
      (try clear hb2)
      (try clear hk)
      (try clear hi)
      (try clear ho0)
      obtain ⟨Ao38, co38, eo38⟩ := Kd.R_slice HO42125.out
      (first | subst eo38 | (injection eo38 with f1_ f2_ f3_; have f4_ := f1_.symm; have f5_ := f3_.symm; clear f1_ f2_ f3_; subst f4_; subst f5_))
      refine hK.out _ _ ⟨(blk_cell BK42117.out 0).trans rfl, (blk_cell BK42117.out 1).trans rfl, (blk_cell BK42117.out 2).trans rfl, (blk_cell BK42117.out 3).trans rfl, (blk_cell BK42101.out 0).trans rfl, (blk_cell BK42101.out 1).trans rfl, (blk_cell BK42101.out 2).trans rfl, (blk_cell BK42101.out 3).trans rfl⟩ (fun hHeld => ?_)
      clear hK K
      refine norm_ (a' := ?_) ?_ ?_
      rotate_left
      ·show Act.put _ (some 41) _ = _
       simp only [Act.put, List.setIfInBounds_toArray, List.set_cons_zero, List.set_cons_succ, i64_w, i32_w]
       rfl
      refine one_ (i := 3) (N := some 42) #[true, true, true, true, false] rfl rfl (by kernel_rfl) (by decide) (fun K hK => ?_)
      refine goes_ Try.func42 (by kernel_rfl) rfl #[.agg #[.int .i64 t42111, .int .i64 t42112, .int .i64 t42113, .slice Ao25 t42114.length co25], .agg #[.int .i64 t42120, .int .i64 t42121, .int .i64 t42122, .slice Ao38 t42123.length co38]] (by rfl) rfl rfl (by (try simp only [List.map_toArray, List.map_cons, List.map_nil]); first | done | rfl | (simp only [List.length_drop, List.length_take]; rfl)) ?_
      with_reducible refine (laws_eqBoard.calls kj11 t42111 t42112 t42113 _ _ t42114 t42120 t42121 t42122 _ _ t42123 false _ ?side1 ?side2 ?side3 ?side4 A30.out).mono ?_
      (case side1 => repeat (first | exact (Kd.R_reads' HO_42118003.out).2.2 | (with_reducible refine Kd.C_alloc ?_ _) | (with_reducible refine Kd.C_drewN ?_ _) | (with_reducible refine Kd.C_drew ?_)))
      (case side2 => exact (Kd.R_reads' HO_42118003.out).2.1)
      (case side3 => repeat (first | exact (Kd.R_reads' HO42125.out).2.2 | (with_reducible refine Kd.C_alloc ?_ _) | (with_reducible refine Kd.C_drewN ?_ _) | (with_reducible refine Kd.C_drew ?_)))
      (case side4 => exact (Kd.R_reads' HO42125.out).2.1)
      rintro e w39 ⟨rfl, hb⟩
      refine ⟨_, rfl, ?_⟩
      have n0_ := Aside0.mk (Kd.R_below (by (with_reducible repeat (first | apply Kd.R_alloc | apply Kd.R_drewN | apply Kd.R_drew)); exact HO_42118003.out) hb)
      have n1_ := Aside0.mk (Kd.R_below (by (with_reducible repeat (first | apply Kd.R_alloc | apply Kd.R_drewN | apply Kd.R_drew)); exact HO42125.out) hb)
      have n2_ := Aside0.mk (blk_below (g := gb42101) (o := .cells #[.int .i64 a0_0, .int .i64 a0_1, .int .i64 a0_2, .slice A0_3 l0_3.length c0_3] 24 (0, 0)) (by (with_reducible repeat (first | refine blk_drewN ?_ _ | refine blk_drew ?_ | refine blk_alloc ?_ _)); exact BK42101.out) hb)
      have n3_ := Aside0.mk (blk_below (g := gb42117) (o := .cells #[.int .i64 t42111, .int .i64 t42112, .int .i64 t42113, .slice Ao25 t42114.length co25] 32 (0, 0)) (by (with_reducible repeat (first | refine blk_drewN ?_ _ | refine blk_drew ?_ | refine blk_alloc ?_ _)); exact BK42117.out) hb)
      have n4_ := Aside0.mk (below_step (by repeat (first | (with_reducible first | exact HB.out | apply below_alloc | apply pw_below_drewN | apply below_drew1 | refine below_set ?_ GE42101.out | refine below_set ?_ GE42117.out) | exact HB.out)) hb)
      clear HO_42118003
      clear HO42125
      clear BK42101
      clear BK42117
      clear HB
      have HO_42118003 := n0_
      have HO42125 := n1_
      have BK42101 := n2_
      have BK42117 := n3_
      have HB := n4_
      clear n0_ n1_ n2_ n3_ n4_
      (try clear hb)
      (try clear hb2)
      (try clear hk)
      (try clear hi)
      refine hK.out _ _ ⟨(blk_cell BK42117.out 0).trans rfl, (blk_cell BK42117.out 1).trans rfl, (blk_cell BK42117.out 2).trans rfl, (blk_cell BK42117.out 3).trans rfl, (blk_cell BK42101.out 0).trans rfl, (blk_cell BK42101.out 1).trans rfl, (blk_cell BK42101.out 2).trans rfl, (blk_cell BK42101.out 3).trans rfl⟩ (fun hHeld => ?_)
      clear hK K
      refine norm_ (a' := ?_) ?_ ?_
      rotate_left
      ·show Act.put _ (some 42) _ = _
       simp only [Act.put, List.setIfInBounds_toArray, List.set_cons_zero, List.set_cons_succ, i64_w, i32_w]
       rfl
      refine pure_ (i := 4) (N := some 43) (v := ?_) (a' := ?_) #[true, true, true, true, true] rfl rfl (by kernel_rfl) (fun _ _ _ h => h) (Or.inl ⟨by rfl, ?_⟩) ?_ ?_
      rotate_left
      ·intro w'
       go_simp
       with_reducible rfl
      rotate_left
      ·simp only [Act.put, List.setIfInBounds_toArray, List.set_cons_zero, List.set_cons_succ, i64_w, i32_w]
       rfl
      refine done_ (by kernel_rfl) ?_
      try go_wp2
      go_ret
      exact ⟨by first | rfl | (simp [errW_none, errW_some] <;> rfl) | (simp [*, errW_none, errW_some] <;> rfl), by repeat (first | (with_reducible first | exact HB.out | apply below_alloc | apply pw_below_drewN | apply below_drew1 | refine below_set ?_ GE42101.out | refine below_set ?_ GE42117.out) | exact HB.out)⟩

end Go.Proofs.Ytkobjjadojpjfaa.Pr
