-- A text of the machine side, written by wip/gen.py of this repo out of the translation. Not trusted: Lean checks it.
import Derived.Test.YtkobjjadojpjfaaF0
import Derived.Test.YtkobjjadojpjfaaFGB
import Derived.Test.YtkobjjadojpjfaaFGC
import Derived.Test.YtkobjjadojpjfaaFSpecSqFar
namespace Go.Proofs.Ytkobjjadojpjfaa.Pr
open Go.RowKit Go.Proofs.YtkobjjadojpjfaaW.PrintWords Go.Proofs.YtkobjjadojpjfaaW.PrintLast Go.Proofs.YtkobjjadojpjfaaW.PrintMore
attribute [local go_sem] max2_int min2_int max_two min_two max_three min_three max_four min_four   -- for this text's walks alone
set_option linter.unusedVariables false
set_option linter.unusedSimpArgs false

/-! ### spec_FirstThrows: function 108 -/
mutual
def spec_FirstThrows.l0 : Nat → Int → List Int → List Int → Int → Int → Int → Int → List (S27) → Option (List Int × Bool)
 | 0, _, _, _, _, _, _, _, _ => none
 | k + 1, x1, x6, x7, x8, x216102000, x216102001, x216102002, x216102003 => if x8 > 0 then (spec_FirstThrows.l1 k x1 x6 x7 x8 1 x216102000 x216102001 x216102002 x216102003) else (some (x7, true))
def spec_FirstThrows.l1 : Nat → Int → List Int → List Int → Int → Int → Int → Int → Int → List (S27) → Option (List Int × Bool)
 | 0, _, _, _, _, _, _, _, _, _ => none
 | k + 1, x1, x6, x7, x8, x9, x216102000, x216102001, x216102002, x216102003 => if x9 ≤ x216102001 then ((spec_sqThrow.f k x216102000 x216102001 x216102002 x216102003 x1 x9).bind fun t216108 => (if 0 ≤ t216108 then (if t216108 < (x6.length : Int) then (if (rd x6 t216108) = (wrap64 (x8 - 1)) then (if x7.length < 17592186044416 then (spec_FirstThrows.l0 k t216108 x6 (x7 ++ [x9]) (wrap64 (x8 - 1)) x216102000 x216102001 x216102002 x216102003) else (none)) else (spec_FirstThrows.l1 k x1 x6 x7 x8 (wrap64 (x9 + 1)) x216102000 x216102001 x216102002 x216102003)) else (none)) else (none))) else (spec_FirstThrows.l0 k x1 x6 x7 (wrap64 (x8 - 1)) x216102000 x216102001 x216102002 x216102003)
end
def spec_FirstThrows.f (k : Nat) (a0_0 : Int) (a0_1 : Int) (a0_2 : Int) (l0_3 : List (S27)) (a1 : Int) : Option (List Int × Bool) := (spec_sqAsked.f k a0_0 a0_1 a0_2 l0_3 a1).bind fun t216102 => (if t216102 = true then ((spec_sqFar.f k a0_0 a0_1 a0_2 l0_3).bind fun t216103 => (if 0 ≤ a1 then (if a1 < (t216103.length : Int) then (if (rd t216103 a1) < 0 then (some (([] : List Int), false)) else (spec_FirstThrows.l0 k a1 t216103 ([] : List Int) (rd t216103 a1) a0_0 a0_1 a0_2 l0_3)) else (none)) else (none))) else (some (([] : List Int), false)))
set_option maxHeartbeats 8000000 in
set_option maxRecDepth 100000 in
theorem spec_FirstThrows.calls (k : Nat) (a0_0 : Int) (a0_1 : Int) (a0_2 : Int) (A0_3 : Option Addr) (c0_3 : Nat) (l0_3 : List (S27)) (a1 : Int) (r1 : List Int) (r2 : Bool) (w : World) (hr0_3 : Kd.C k27 w A0_3 l0_3.length l0_3) (hc0_3 : l0_3.length ≤ c0_3) (h : spec_FirstThrows.f k a0_0 a0_1 a0_2 l0_3 a1 = some (r1, r2)) :
  Calls Try.prog 108 #[.agg #[.int .i64 a0_0, .int .i64 a0_1, .int .i64 a0_2, .slice A0_3 l0_3.length c0_3], .int .i64 a1] w fun e w' => ∃ v0_ : Value, e = .returned (.tuple #[v0_, .bool r2]) ∧ Kd.R (Kd.int .i64) 3 w' w.heap.size (fun _ => True) v0_ r1 ∧ Below w.heap.size w w' := by
 have hu32 := Try.underlying32
 have HR0_3 := Aside0.mk hr0_3
 have HC0_3 := Aside0.mk hc0_3
 clear hr0_3 hc0_3
 have HB := Aside0.mk (Below.refl w.heap.size w)
 have H : ((spec_sqAsked.f k a0_0 a0_1 a0_2 l0_3 a1).bind fun t216102 => (if t216102 = true then ((spec_sqFar.f k a0_0 a0_1 a0_2 l0_3).bind fun t216103 => (if 0 ≤ a1 then (if a1 < (t216103.length : Int) then (if (rd t216103 a1) < 0 then (some (([] : List Int), false)) else (spec_FirstThrows.l0 k a1 t216103 ([] : List Int) (rd t216103 a1) a0_0 a0_1 a0_2 l0_3)) else (none)) else (none))) else (some (([] : List Int), false)))) = some (r1, r2) := h
 clear h
 replace H := Option.bind_eq_some_iff.mp H
 obtain ⟨t216102, A30, H⟩ := H
 replace H : (if t216102 = true then ((spec_sqFar.f k a0_0 a0_1 a0_2 l0_3).bind fun t216103 => (if 0 ≤ a1 then (if a1 < (t216103.length : Int) then (if (rd t216103 a1) < 0 then (some (([] : List Int), false)) else (spec_FirstThrows.l0 k a1 t216103 ([] : List Int) (rd t216103 a1) a0_0 a0_1 a0_2 l0_3)) else (none)) else (none))) else (some (([] : List Int), false))) = some (r1, r2) := H
 have A3 := Aside0.mk A30
 clear A30
 by_cases c4 : t216102 = true
 ·subst c4
  have H1 : ((spec_sqFar.f k a0_0 a0_1 a0_2 l0_3).bind fun t216103 => (if 0 ≤ a1 then (if a1 < (t216103.length : Int) then (if (rd t216103 a1) < 0 then (some (([] : List Int), false)) else (spec_FirstThrows.l0 k a1 t216103 ([] : List Int) (rd t216103 a1) a0_0 a0_1 a0_2 l0_3)) else (none)) else (none))) = some (r1, r2) := by rw [if_pos rfl] at H; exact H
  clear H
  have H := H1
  clear H1
  replace H := Option.bind_eq_some_iff.mp H
  obtain ⟨t216103, A50, H⟩ := H
  replace H : (if 0 ≤ a1 then (if a1 < (t216103.length : Int) then (if (rd t216103 a1) < 0 then (some (([] : List Int), false)) else (spec_FirstThrows.l0 k a1 t216103 ([] : List Int) (rd t216103 a1) a0_0 a0_1 a0_2 l0_3)) else (none)) else (none)) = some (r1, r2) := H
  have A5 := Aside0.mk A50
  clear A50
  by_cases c6 : 0 ≤ a1
  ·rw [if_pos c6] at H
   have c6b0 : decide (0 ≤ a1) = true := decide_eq_true c6
   clear c6
   by_cases c7 : a1 < (t216103.length : Int)
   ·rw [if_pos c7] at H
    have c7b0 : decide (a1 < (t216103.length : Int)) = true := decide_eq_true c7
    clear c7
    by_cases c8 : (rd t216103 a1) < 0
    ·rw [if_pos c8] at H
     have c8b0 : decide ((rd t216103 a1) < 0) = true := decide_eq_true c8
     clear c8
     simp only [Option.some.injEq, Prod.mk.injEq] at H
     obtain ⟨rfl, rfl⟩ := H
     go_enter Try.func108, Try.ntmps108
     go_wp2_with (first | ((with_reducible refine gate_dst (N := 2) rfl ?_); refine box_event ?hg (N := 2) ?hd (cs := #[.int .i64 a0_0, .int .i64 a0_1, .int .i64 a0_2, .slice A0_3 l0_3.length c0_3]) (t := 32) ?hr ?_; (case hd => rfl); (case hg => rfl); (case hr => first | (go_simp; done) | (go_simp; rfl)); intro gb216101 hg w9 hbox hb; have n0_ := Aside0.mk (below_step (by repeat (first | (with_reducible first | exact HB.out | apply below_alloc | apply pw_below_drewN | apply below_drew1) | exact HB.out)) hb); have n1_ := Aside0.mk (hbox); have n2_ := Aside0.mk ((by rw [hg]; exact (below_size (by repeat (first | (with_reducible first | exact HB.out | apply below_alloc | apply pw_below_drewN | apply below_drew1) | exact HB.out))) : w.heap.size ≤ gb216101)); have n3_ := Aside0.mk ((by rw [hg]; exact (below_size (by repeat (first | (with_reducible first | exact HB.out | apply below_alloc | apply pw_below_drewN | apply below_drew1) | exact HB.out))) : w.heap.size ≤ gb216101)); clear HB; have HB := n0_; have BK216101 := n1_; have GW216101 := n2_; have GE216101 := n3_; clear n0_ n1_ n2_ n3_; clear hb hbox hg; have hcz10_0 : w9.cell? ⟨gb216101, 0, none⟩ = some (.int .i64 a0_0) := (blk_cell BK216101.out 0).trans rfl; have hcz10_1 : w9.cell? ⟨gb216101, 1, none⟩ = some (.int .i64 a0_1) := (blk_cell BK216101.out 1).trans rfl; have hcz10_2 : w9.cell? ⟨gb216101, 2, none⟩ = some (.int .i64 a0_2) := (blk_cell BK216101.out 2).trans rfl; have hcz10_3 : w9.cell? ⟨gb216101, 3, none⟩ = some (.slice A0_3 l0_3.length c0_3) := (blk_cell BK216101.out 3).trans rfl; have hfz10_0 := blk_frozen BK216101.out 0; have hfz10_1 := blk_frozen BK216101.out 1; have hfz10_2 := blk_frozen BK216101.out 2; have hfz10_3 := blk_frozen BK216101.out 3) | ((with_reducible refine gate_callee (f := 135) rfl ?_); refine goesL_ (some 13) rfl rfl Try.func135 (by kernel_rfl) rfl #[.agg #[.int .i64 a0_0, .int .i64 a0_1, .int .i64 a0_2, .slice A0_3 l0_3.length c0_3], .int .i64 a1] rfl (by (try simp only [List.map_toArray, List.map_cons, List.map_nil]); first | done | rfl | (simp only [List.length_drop, List.length_take]; rfl)) ?_; (with_reducible refine (spec_sqAsked.calls k a0_0 a0_1 a0_2 _ _ l0_3 a1 true _ ?side1 ?side2 A3.out).mono ?_); (case side1 => repeat (first | exact (Kd.C_below HR0_3.out HB.out) | (with_reducible refine Kd.C_alloc ?_ _) | (with_reducible refine Kd.C_drewN ?_ _) | (with_reducible refine Kd.C_drew ?_))); (case side2 => exact HC0_3.out); rintro e w11 ⟨rfl, hb⟩; refine ⟨_, rfl, ?_⟩; have n0_ := Aside0.mk (blk_below (g := gb216101) (o := .cells #[.int .i64 a0_0, .int .i64 a0_1, .int .i64 a0_2, .slice A0_3 l0_3.length c0_3] 32 (0, 0)) (by (with_reducible repeat (first | refine blk_drewN ?_ _ | refine blk_drew ?_ | refine blk_alloc ?_ _)); exact BK216101.out) hb); have n1_ := Aside0.mk (below_step (by repeat (first | (with_reducible first | exact HB.out | apply below_alloc | apply pw_below_drewN | apply below_drew1 | refine below_set ?_ GE216101.out) | exact HB.out)) hb); clear BK216101; clear HB; have BK216101 := n0_; have HB := n1_; clear n0_ n1_; (try clear hb); (try clear hb2); (try clear hk); (try clear hi); have hcz12_0 : w11.cell? ⟨gb216101, 0, none⟩ = some (.int .i64 a0_0) := (blk_cell BK216101.out 0).trans rfl; have hcz12_1 : w11.cell? ⟨gb216101, 1, none⟩ = some (.int .i64 a0_1) := (blk_cell BK216101.out 1).trans rfl; have hcz12_2 : w11.cell? ⟨gb216101, 2, none⟩ = some (.int .i64 a0_2) := (blk_cell BK216101.out 2).trans rfl; have hcz12_3 : w11.cell? ⟨gb216101, 3, none⟩ = some (.slice A0_3 l0_3.length c0_3) := (blk_cell BK216101.out 3).trans rfl; have hfz12_0 := blk_frozen BK216101.out 0; have hfz12_1 := blk_frozen BK216101.out 1; have hfz12_2 := blk_frozen BK216101.out 2; have hfz12_3 := blk_frozen BK216101.out 3) | ((with_reducible refine gate_callee (f := 127) rfl ?_); refine goesL_ (some 16) rfl rfl Try.func127 (by kernel_rfl) rfl #[.agg #[.int .i64 a0_0, .int .i64 a0_1, .int .i64 a0_2, .slice A0_3 l0_3.length c0_3]] rfl (by (try simp only [List.map_toArray, List.map_cons, List.map_nil]); first | done | rfl | (simp only [List.length_drop, List.length_take]; rfl)) ?_; (with_reducible refine (spec_sqFar.calls k a0_0 a0_1 a0_2 _ _ l0_3 t216103 _ ?side1 ?side2 A5.out).mono ?_); (case side1 => repeat (first | exact (Kd.C_below HR0_3.out HB.out) | (with_reducible refine Kd.C_alloc ?_ _) | (with_reducible refine Kd.C_drewN ?_ _) | (with_reducible refine Kd.C_drew ?_))); (case side2 => exact HC0_3.out); rintro e w13 ⟨v216104, rfl, ho0, hb⟩; refine ⟨_, rfl, ?_⟩; have n0_ := Aside0.mk (Kd.R_lower ho0 (below_size (by repeat (first | (with_reducible first | exact HB.out | apply below_alloc | apply pw_below_drewN | apply below_drew1 | refine below_set ?_ GE216101.out) | exact HB.out)))); have n1_ := Aside0.mk (blk_below (g := gb216101) (o := .cells #[.int .i64 a0_0, .int .i64 a0_1, .int .i64 a0_2, .slice A0_3 l0_3.length c0_3] 32 (0, 0)) (by (with_reducible repeat (first | refine blk_drewN ?_ _ | refine blk_drew ?_ | refine blk_alloc ?_ _)); exact BK216101.out) hb); have n2_ := Aside0.mk (below_step (by repeat (first | (with_reducible first | exact HB.out | apply below_alloc | apply pw_below_drewN | apply below_drew1 | refine below_set ?_ GE216101.out) | exact HB.out)) hb); clear BK216101; clear HB; have HO216105 := n0_; have BK216101 := n1_; have HB := n2_; clear n0_ n1_ n2_; (try clear hb); (try clear hb2); (try clear hk); (try clear hi); (try clear ho0); obtain ⟨Ao14, co14, eo14⟩ := Kd.R_slice HO216105.out; subst eo14; have p216106 : 0 ≤ (a1 : Int) := of_decide_eq_true (by first | (with_reducible assumption) | assumption); have q216106 : a1 < (t216103.length : Int) := of_decide_eq_true (by first | (with_reducible assumption) | assumption); obtain ⟨ad216106, e216106, hx216106_0⟩ := Kd.at_int (Kd.R_reads' HO216105.out).2.2 a1 p216106 q216106; cases e216106; replace p216106 := eq_true p216106; replace q216106 := eq_true q216106))
     go_ret2
     exact ⟨_, by first | rfl | (simp [errW_none, errW_some] <;> rfl) | (simp [*, errW_none, errW_some] <;> rfl), by first | exact Kd.R_nil _ _ _ _ _ | exact Kd.N_nil _ _ _ _ _ | exact Kd.V_nil _ _ _ _ _ | exact Kd.Q_nil _ _ _ _ _ | exact Kd.S_nil _ _ _ _ _, by repeat (first | (with_reducible first | exact HB.out | apply below_alloc | apply pw_below_drewN | apply below_drew1 | refine below_set ?_ GE216101.out) | exact HB.out)⟩
    ·rw [if_neg c8] at H
     have c8b0 : decide ((rd t216103 a1) < 0) = false := decide_eq_false c8
     clear c8
     have H' := Aside0.mk H
     clear H
     go_enter Try.func108, Try.ntmps108
     go_wp2_with (first | ((with_reducible refine gate_dst (N := 2) rfl ?_); refine box_event ?hg (N := 2) ?hd (cs := #[.int .i64 a0_0, .int .i64 a0_1, .int .i64 a0_2, .slice A0_3 l0_3.length c0_3]) (t := 32) ?hr ?_; (case hd => rfl); (case hg => rfl); (case hr => first | (go_simp; done) | (go_simp; rfl)); intro gb216101 hg w15 hbox hb; have n0_ := Aside0.mk (below_step (by repeat (first | (with_reducible first | exact HB.out | apply below_alloc | apply pw_below_drewN | apply below_drew1) | exact HB.out)) hb); have n1_ := Aside0.mk (hbox); have n2_ := Aside0.mk ((by rw [hg]; exact (below_size (by repeat (first | (with_reducible first | exact HB.out | apply below_alloc | apply pw_below_drewN | apply below_drew1) | exact HB.out))) : w.heap.size ≤ gb216101)); have n3_ := Aside0.mk ((by rw [hg]; exact (below_size (by repeat (first | (with_reducible first | exact HB.out | apply below_alloc | apply pw_below_drewN | apply below_drew1) | exact HB.out))) : w.heap.size ≤ gb216101)); clear HB; have HB := n0_; have BK216101 := n1_; have GW216101 := n2_; have GE216101 := n3_; clear n0_ n1_ n2_ n3_; clear hb hbox hg; have hcz16_0 : w15.cell? ⟨gb216101, 0, none⟩ = some (.int .i64 a0_0) := (blk_cell BK216101.out 0).trans rfl; have hcz16_1 : w15.cell? ⟨gb216101, 1, none⟩ = some (.int .i64 a0_1) := (blk_cell BK216101.out 1).trans rfl; have hcz16_2 : w15.cell? ⟨gb216101, 2, none⟩ = some (.int .i64 a0_2) := (blk_cell BK216101.out 2).trans rfl; have hcz16_3 : w15.cell? ⟨gb216101, 3, none⟩ = some (.slice A0_3 l0_3.length c0_3) := (blk_cell BK216101.out 3).trans rfl; have hfz16_0 := blk_frozen BK216101.out 0; have hfz16_1 := blk_frozen BK216101.out 1; have hfz16_2 := blk_frozen BK216101.out 2; have hfz16_3 := blk_frozen BK216101.out 3) | ((with_reducible refine gate_callee (f := 135) rfl ?_); refine goesL_ (some 13) rfl rfl Try.func135 (by kernel_rfl) rfl #[.agg #[.int .i64 a0_0, .int .i64 a0_1, .int .i64 a0_2, .slice A0_3 l0_3.length c0_3], .int .i64 a1] rfl (by (try simp only [List.map_toArray, List.map_cons, List.map_nil]); first | done | rfl | (simp only [List.length_drop, List.length_take]; rfl)) ?_; (with_reducible refine (spec_sqAsked.calls k a0_0 a0_1 a0_2 _ _ l0_3 a1 true _ ?side1 ?side2 A3.out).mono ?_); (case side1 => repeat (first | exact (Kd.C_below HR0_3.out HB.out) | (with_reducible refine Kd.C_alloc ?_ _) | (with_reducible refine Kd.C_drewN ?_ _) | (with_reducible refine Kd.C_drew ?_))); (case side2 => exact HC0_3.out); rintro e w17 ⟨rfl, hb⟩; refine ⟨_, rfl, ?_⟩; have n0_ := Aside0.mk (blk_below (g := gb216101) (o := .cells #[.int .i64 a0_0, .int .i64 a0_1, .int .i64 a0_2, .slice A0_3 l0_3.length c0_3] 32 (0, 0)) (by (with_reducible repeat (first | refine blk_drewN ?_ _ | refine blk_drew ?_ | refine blk_alloc ?_ _)); exact BK216101.out) hb); have n1_ := Aside0.mk (below_step (by repeat (first | (with_reducible first | exact HB.out | apply below_alloc | apply pw_below_drewN | apply below_drew1 | refine below_set ?_ GE216101.out) | exact HB.out)) hb); clear BK216101; clear HB; have BK216101 := n0_; have HB := n1_; clear n0_ n1_; (try clear hb); (try clear hb2); (try clear hk); (try clear hi); have hcz18_0 : w17.cell? ⟨gb216101, 0, none⟩ = some (.int .i64 a0_0) := (blk_cell BK216101.out 0).trans rfl; have hcz18_1 : w17.cell? ⟨gb216101, 1, none⟩ = some (.int .i64 a0_1) := (blk_cell BK216101.out 1).trans rfl; have hcz18_2 : w17.cell? ⟨gb216101, 2, none⟩ = some (.int .i64 a0_2) := (blk_cell BK216101.out 2).trans rfl; have hcz18_3 : w17.cell? ⟨gb216101, 3, none⟩ = some (.slice A0_3 l0_3.length c0_3) := (blk_cell BK216101.out 3).trans rfl; have hfz18_0 := blk_frozen BK216101.out 0; have hfz18_1 := blk_frozen BK216101.out 1; have hfz18_2 := blk_frozen BK216101.out 2; have hfz18_3 := blk_frozen BK216101.out 3) | ((with_reducible refine gate_callee (f := 127) rfl ?_); refine goesL_ (some 16) rfl rfl Try.func127 (by kernel_rfl) rfl #[.agg #[.int .i64 a0_0, .int .i64 a0_1, .int .i64 a0_2, .slice A0_3 l0_3.length c0_3]] rfl (by (try simp only [List.map_toArray, List.map_cons, List.map_nil]); first | done | rfl | (simp only [List.length_drop, List.length_take]; rfl)) ?_; (with_reducible refine (spec_sqFar.calls k a0_0 a0_1 a0_2 _ _ l0_3 t216103 _ ?side1 ?side2 A5.out).mono ?_); (case side1 => repeat (first | exact (Kd.C_below HR0_3.out HB.out) | (with_reducible refine Kd.C_alloc ?_ _) | (with_reducible refine Kd.C_drewN ?_ _) | (with_reducible refine Kd.C_drew ?_))); (case side2 => exact HC0_3.out); rintro e w19 ⟨v216104, rfl, ho0, hb⟩; refine ⟨_, rfl, ?_⟩; have n0_ := Aside0.mk (Kd.R_lower ho0 (below_size (by repeat (first | (with_reducible first | exact HB.out | apply below_alloc | apply pw_below_drewN | apply below_drew1 | refine below_set ?_ GE216101.out) | exact HB.out)))); have n1_ := Aside0.mk (blk_below (g := gb216101) (o := .cells #[.int .i64 a0_0, .int .i64 a0_1, .int .i64 a0_2, .slice A0_3 l0_3.length c0_3] 32 (0, 0)) (by (with_reducible repeat (first | refine blk_drewN ?_ _ | refine blk_drew ?_ | refine blk_alloc ?_ _)); exact BK216101.out) hb); have n2_ := Aside0.mk (below_step (by repeat (first | (with_reducible first | exact HB.out | apply below_alloc | apply pw_below_drewN | apply below_drew1 | refine below_set ?_ GE216101.out) | exact HB.out)) hb); clear BK216101; clear HB; have HO216105 := n0_; have BK216101 := n1_; have HB := n2_; clear n0_ n1_ n2_; (try clear hb); (try clear hb2); (try clear hk); (try clear hi); (try clear ho0); obtain ⟨Ao20, co20, eo20⟩ := Kd.R_slice HO216105.out; subst eo20; have p216106 : 0 ≤ (a1 : Int) := of_decide_eq_true (by first | (with_reducible assumption) | assumption); have q216106 : a1 < (t216103.length : Int) := of_decide_eq_true (by first | (with_reducible assumption) | assumption); obtain ⟨ad216106, e216106, hx216106_0⟩ := Kd.at_int (Kd.R_reads' HO216105.out).2.2 a1 p216106 q216106; cases e216106; replace p216106 := eq_true p216106; replace q216106 := eq_true q216106; have p216107 : 0 ≤ (a1 : Int) := of_decide_eq_true (by first | (with_reducible assumption) | assumption); have q216107 : a1 < (t216103.length : Int) := of_decide_eq_true (by first | (with_reducible assumption) | assumption); obtain ⟨ad216107, e216107, hx216107_0⟩ := Kd.at_int (Kd.R_reads' HO216105.out).2.2 a1 p216107 q216107; obtain rfl : ad216106 = ad216107 := (by injection e216107); replace p216107 := eq_true p216107; replace q216107 := eq_true q216107))
     go_loopg [1, 7, 8] k (fun kq v1 v7 v8 w' => ∃ (x1_1 : Int) (x7_1 : List Int) (x8_1 : Int), v1 = .int .i64 x1_1 ∧ v8 = .int .i64 x8_1 ∧ Aside0 (spec_FirstThrows.l0 kq x1_1 t216103 x7_1 x8_1 a0_0 a0_1 a0_2 l0_3 = some (r1, r2)) ∧ Aside0 (kq ≤ k) ∧ Aside0 (Kd.R (Kd.int .i64) 3 w' w.heap.size (fun k_ => some k_ ≠ (v7 : Value).ownBlock) (.slice (some ad216106) t216103.length co20) t216103) ∧ Aside0 (Kd.R (Kd.int .i64) 3 w' w.heap.size (fun k_ => some k_ ≠ ((.slice (some ad216106) t216103.length co20) : Value).ownBlock) v7 x7_1) ∧ Aside0 (w'.heap[gb216101]? = some (.cells #[.int .i64 a0_0, .int .i64 a0_1, .int .i64 a0_2, (.slice A0_3 l0_3.length c0_3)] 32 (0, 0))) ∧ Aside0 (Below w.heap.size w w'))
     case atStart => exact ⟨(a1), (([] : List Int)), (rd t216103 a1), (by first | rfl | (simp; done) | (simp [*]; done)), (by first | rfl | (simp; done) | (simp [*]; done)), H', ⟨Nat.le_refl _⟩, ⟨by (with_reducible repeat (first | apply Kd.R_alloc | apply Kd.R_drewN | apply Kd.R_drew)); exact Kd.R_mono HO216105.out (fun _ hk => (by simp [Value.ownBlock]))⟩, ⟨by first | exact Kd.R_nil _ _ _ _ _ | exact Kd.N_nil _ _ _ _ _ | exact Kd.V_nil _ _ _ _ _ | exact Kd.Q_nil _ _ _ _ _ | exact Kd.S_nil _ _ _ _ _⟩, ⟨by (with_reducible repeat (first | refine blk_drewN ?_ _ | refine blk_drew ?_ | refine blk_alloc ?_ _)); exact BK216101.out⟩, ⟨by repeat (first | (with_reducible first | exact HB.out | apply below_alloc | apply pw_below_drewN | apply below_drew1 | refine below_set ?_ GE216101.out) | exact HB.out)⟩⟩
     case round =>
      clear H'
      try clear c1
      try clear p2
      try clear q2
      try clear hx2
      try clear c4
      try clear c6
      try clear c6b0
      try clear c7
      try clear c7b0
      try clear c8
      try clear c8b0
      try clear c10
      try clear c12
      try clear c13
      try clear hcz10_0
      try clear hcz10_1
      try clear hcz10_2
      try clear hcz10_3
      try clear hcz12_0
      try clear hcz12_1
      try clear hcz12_2
      try clear hcz12_3
      try clear hcz16_0
      try clear hcz16_1
      try clear hcz16_2
      try clear hcz16_3
      try clear hcz18_0
      try clear hcz18_1
      try clear hcz18_2
      try clear hcz18_3
      try clear hfz10_0
      try clear hfz10_1
      try clear hfz10_2
      try clear hfz10_3
      try clear hfz12_0
      try clear hfz12_1
      try clear hfz12_2
      try clear hfz12_3
      try clear hfz16_0
      try clear hfz16_1
      try clear hfz16_2
      try clear hfz16_3
      try clear hfz18_0
      try clear hfz18_1
      try clear hfz18_2
      try clear hfz18_3
      try clear hx216106_0
      try clear hx216107_0
      try clear p216106
      try clear p216107
      try clear q216106
      try clear q216107
      obtain ⟨x1_1, x7_1, x8_1, rfl, rfl, HA, HK1, HO_6, HO_7, BK216101, HB⟩ := hrel
      cases gk with
      | zero => exact absurd HA.out (by simp [spec_FirstThrows.l0])
      | succ k1 =>
       have H := HA.out
       clear HA
       simp only [spec_FirstThrows.l0] at H
       by_cases c21 : x8_1 > 0
       ·rw [if_pos c21] at H
        have c21b0 : decide (0 < x8_1) = true := decide_eq_true c21
        clear c21
        have H' := Aside0.mk H
        clear H
        go_wp2
        go_loopg [1, 7, 9] k1 (fun kq v1 v7 v9 w' => ∃ (x1_2 : Int) (x7_2 : List Int) (x9_2 : Int), v1 = .int .i64 x1_2 ∧ v9 = .int .i64 x9_2 ∧ Aside0 (spec_FirstThrows.l1 kq x1_2 t216103 x7_2 x8_1 x9_2 a0_0 a0_1 a0_2 l0_3 = some (r1, r2)) ∧ Aside0 (kq ≤ k1) ∧ Aside0 (Kd.R (Kd.int .i64) 3 w' w.heap.size (fun k_ => some k_ ≠ (v7 : Value).ownBlock) (.slice (some ad216106) t216103.length co20) t216103) ∧ Aside0 (Kd.R (Kd.int .i64) 3 w' w.heap.size (fun k_ => some k_ ≠ ((.slice (some ad216106) t216103.length co20) : Value).ownBlock) v7 x7_2) ∧ Aside0 (w'.heap[gb216101]? = some (.cells #[.int .i64 a0_0, .int .i64 a0_1, .int .i64 a0_2, (.slice A0_3 l0_3.length c0_3)] 32 (0, 0))) ∧ Aside0 (Below w.heap.size w w'))
        case atStart => exact ⟨(x1_1), (x7_1), (1), (by first | rfl | (simp; done) | (simp [*]; done)), (by first | rfl | (simp; done) | (simp [*]; done)), H', ⟨Nat.le_refl _⟩, ⟨by (with_reducible repeat (first | apply Kd.R_alloc | apply Kd.R_drewN | apply Kd.R_drew)); exact HO_6.out⟩, ⟨by (with_reducible repeat (first | apply Kd.R_alloc | apply Kd.R_drewN | apply Kd.R_drew)); exact HO_7.out⟩, ⟨by (with_reducible repeat (first | refine blk_drewN ?_ _ | refine blk_drew ?_ | refine blk_alloc ?_ _)); exact BK216101.out⟩, ⟨by repeat (first | (with_reducible first | exact HB.out | apply below_alloc | apply pw_below_drewN | apply below_drew1 | refine below_set ?_ GE216101.out) | exact HB.out)⟩⟩
        case round =>
         clear H'
         try clear c1
         try clear c2
         try clear p2
         try clear q2
         try clear hx2
         try clear c4
         try clear c6
         try clear c6b0
         try clear c7
         try clear c7b0
         try clear c8
         try clear c8b0
         try clear c10
         try clear c12
         try clear c13
         try clear c21
         try clear c21b0
         try clear p21
         try clear q21
         try clear hx21
         try clear hcz10_0
         try clear hcz10_1
         try clear hcz10_2
         try clear hcz10_3
         try clear hcz12_0
         try clear hcz12_1
         try clear hcz12_2
         try clear hcz12_3
         try clear hcz16_0
         try clear hcz16_1
         try clear hcz16_2
         try clear hcz16_3
         try clear hcz18_0
         try clear hcz18_1
         try clear hcz18_2
         try clear hcz18_3
         try clear hfz10_0
         try clear hfz10_1
         try clear hfz10_2
         try clear hfz10_3
         try clear hfz12_0
         try clear hfz12_1
         try clear hfz12_2
         try clear hfz12_3
         try clear hfz16_0
         try clear hfz16_1
         try clear hfz16_2
         try clear hfz16_3
         try clear hfz18_0
         try clear hfz18_1
         try clear hfz18_2
         try clear hfz18_3
         try clear hx216106_0
         try clear hx216107_0
         try clear p2
         try clear p216106
         try clear p216107
         try clear q2
         try clear q216106
         try clear q216107
         obtain ⟨x1_2, x7_2, x9_2, rfl, rfl, HA, HK2, HO_6, HO_7, BK216101, HB⟩ := hrel
         cases gk with
         | zero => exact absurd HA.out (by simp [spec_FirstThrows.l1])
         | succ k2 =>
          have H := HA.out
          clear HA
          simp only [spec_FirstThrows.l1] at H
          by_cases c22 : x9_2 ≤ a0_1
          ·rw [if_pos c22] at H
           have c22b0 : decide (x9_2 ≤ a0_1) = true := decide_eq_true c22
           clear c22
           replace H := Option.bind_eq_some_iff.mp H
           obtain ⟨t216108, A230, H⟩ := H
           replace H : (if 0 ≤ t216108 then (if t216108 < (t216103.length : Int) then (if (rd t216103 t216108) = (wrap64 (x8_1 - 1)) then (if x7_2.length < 17592186044416 then (spec_FirstThrows.l0 k2 t216108 t216103 (x7_2 ++ [x9_2]) (wrap64 (x8_1 - 1)) a0_0 a0_1 a0_2 l0_3) else (none)) else (spec_FirstThrows.l1 k2 x1_2 t216103 x7_2 x8_1 (wrap64 (x9_2 + 1)) a0_0 a0_1 a0_2 l0_3)) else (none)) else (none)) = some (r1, r2) := H
           have A23 := Aside0.mk A230
           clear A230
           by_cases c24 : 0 ≤ t216108
           ·rw [if_pos c24] at H
            have c24b0 : decide (0 ≤ t216108) = true := decide_eq_true c24
            clear c24
            by_cases c25 : t216108 < (t216103.length : Int)
            ·rw [if_pos c25] at H
             have c25b0 : decide (t216108 < (t216103.length : Int)) = true := decide_eq_true c25
             clear c25
             by_cases c26 : (rd t216103 t216108) = (wrap64 (x8_1 - 1))
             ·rw [if_pos c26] at H
              have c26b0 : ((rd t216103 t216108) == (wrap64 (x8_1 - 1))) = true := beq_iff_eq.mpr c26
              have c26b1 : ((rd t216103 t216108) != (wrap64 (x8_1 - 1))) = false := bne_eq_false_iff_eq.mpr c26
              clear c26
              by_cases c27 : x7_2.length < 17592186044416
              ·rw [if_pos c27] at H
               have LMc27 := Aside0.mk c27
               clear c27
               obtain ⟨y216110, hy216110⟩ : ∃ y_ : List Int, y_ = (x7_2 ++ [x9_2]) := ⟨_, rfl⟩
               replace H : (spec_FirstThrows.l0 k2 t216108 t216103 y216110 (wrap64 (x8_1 - 1)) a0_0 a0_1 a0_2 l0_3) = some (r1, r2) := by first | (rw [hy216110]; with_reducible exact H) | (have H2_ := (Option.bind_some _ _).symm.trans H; rw [hy216110]; with_reducible exact H2_) | (have H2_ := (Option.bind_some _ _).symm.trans H; with_reducible exact H2_) | with_reducible exact H | (rw [hy216110]; exact H) | exact H
               have Ny216110 := Aside0.mk hy216110
               clear hy216110
               have H' := Aside0.mk H
               clear H
               have hcz28_0 : wr.cell? ⟨gb216101, 0, none⟩ = some (.int .i64 a0_0) := (blk_cell BK216101.out 0).trans rfl
               have hcz28_1 : wr.cell? ⟨gb216101, 1, none⟩ = some (.int .i64 a0_1) := (blk_cell BK216101.out 1).trans rfl
               have hcz28_2 : wr.cell? ⟨gb216101, 2, none⟩ = some (.int .i64 a0_2) := (blk_cell BK216101.out 2).trans rfl
               have hcz28_3 : wr.cell? ⟨gb216101, 3, none⟩ = some (.slice A0_3 l0_3.length c0_3) := (blk_cell BK216101.out 3).trans rfl
               have hfz28_0 := blk_frozen BK216101.out 0
               have hfz28_1 := blk_frozen BK216101.out 1
               have hfz28_2 := blk_frozen BK216101.out 2
               have hfz28_3 := blk_frozen BK216101.out 3
               go_wp2_with (first | ((with_reducible refine gate_callee (f := 137) rfl ?_); refine goesL_ (some 39) rfl rfl Try.func137 (by kernel_rfl) rfl #[.agg #[.int .i64 a0_0, .int .i64 a0_1, .int .i64 a0_2, .slice A0_3 l0_3.length c0_3], .int .i64 x1_2, .int .i64 x9_2] rfl (by (try simp only [List.map_toArray, List.map_cons, List.map_nil]); first | done | rfl | (simp only [List.length_drop, List.length_take]; rfl)) ?_; (with_reducible refine (spec_sqThrow.calls k2 a0_0 a0_1 a0_2 _ _ l0_3 x1_2 x9_2 t216108 _ ?side1 ?side2 A23.out).mono ?_); (case side1 => repeat (first | exact (Kd.C_below HR0_3.out HB.out) | (with_reducible refine Kd.C_alloc ?_ _) | (with_reducible refine Kd.C_drewN ?_ _) | (with_reducible refine Kd.C_drew ?_))); (case side2 => exact HC0_3.out); rintro e w29 ⟨rfl, hb⟩; refine ⟨_, rfl, ?_⟩; have n0_ := Aside0.mk (Kd.R_below (by (with_reducible repeat (first | apply Kd.R_alloc | apply Kd.R_drewN | apply Kd.R_drew)); exact HO_6.out) hb); have n1_ := Aside0.mk (Kd.R_below (by (with_reducible repeat (first | apply Kd.R_alloc | apply Kd.R_drewN | apply Kd.R_drew)); exact HO_7.out) hb); have n2_ := Aside0.mk (blk_below (g := gb216101) (o := .cells #[.int .i64 a0_0, .int .i64 a0_1, .int .i64 a0_2, .slice A0_3 l0_3.length c0_3] 32 (0, 0)) (by (with_reducible repeat (first | refine blk_drewN ?_ _ | refine blk_drew ?_ | refine blk_alloc ?_ _)); exact BK216101.out) hb); have n3_ := Aside0.mk (below_step (by repeat (first | (with_reducible first | exact HB.out | apply below_alloc | apply pw_below_drewN | apply below_drew1 | refine below_set ?_ GE216101.out) | exact HB.out)) hb); clear HO_6; clear HO_7; clear BK216101; clear HB; have HO_6 := n0_; have HO_7 := n1_; have BK216101 := n2_; have HB := n3_; clear n0_ n1_ n2_ n3_; (try clear hb); (try clear hb2); (try clear hk); (try clear hi); have p216109 : 0 ≤ (t216108 : Int) := of_decide_eq_true (by first | (with_reducible assumption) | assumption); have q216109 : t216108 < (t216103.length : Int) := of_decide_eq_true (by first | (with_reducible assumption) | assumption); obtain ⟨ad216109, e216109, hx216109_0⟩ := Kd.at_int (Kd.R_reads' HO_6.out).2.2 t216108 p216109 q216109; obtain rfl : ad216106 = ad216109 := (by injection e216109); replace p216109 := eq_true p216109; replace q216109 := eq_true q216109) | ((with_reducible refine gate_builtin (b := .append) (xs := #[.tmp 47, .tmp 49]) rfl ?_); at_builtin; refine Kd.R_append (Kd.int .i64) (w0 := w) w.heap.size rfl (.tmp 47) (.tmp 49) 58 3 (.int .i64 0) 8 rfl Try.underlying58 info3 rfl (by decide) (by omega) u7 x7_2 x9_2 [.int .i64 x9_2] (fun k_ => some k_ ≠ (.slice (some ad216106) t216103.length co20 : Value).ownBlock) (fun _ => False) rfl rfl ?aP (fun _ hk => hk.elim) ?aF ?aO ?aB ?aS ?aL ?_; (case aP => exact rfl); (case aB => exact (by repeat (first | (with_reducible first | exact HB.out | apply below_alloc | apply pw_below_drewN | apply below_drew1 | refine below_set ?_ GE216101.out) | exact HB.out))); (case aF => exact (fun k_ hk => Kd.fresh' (Kd.R_lt (by (with_reducible repeat (first | apply Kd.R_alloc | apply Kd.R_drewN | apply Kd.R_drew)); exact HO_6.out)) k_ hk)); (case aO => exact (by (with_reducible repeat (first | apply Kd.R_alloc | apply Kd.R_drewN | apply Kd.R_drew)); exact HO_7.out)); (case aS => exact (below_size (by repeat (first | (with_reducible first | exact HB.out | apply below_alloc | apply pw_below_drewN | apply below_drew1 | refine below_set ?_ GE216101.out) | exact HB.out)))); (case aL => have := LMc27.out; omega); intro v216111 w30 ho hb hg hat; rw [← Ny216110.out] at ho; have n0_ := Aside0.mk (Kd.R_after (ok := (fun _ => True)) (by (with_reducible repeat (first | apply Kd.R_alloc | apply Kd.R_drewN | apply Kd.R_drew)); exact Kd.R_mono HO_6.out (fun _ hk => ⟨trivial, hk⟩)) hg hat); have n1_ := Aside0.mk (blk_grown (g := gb216101) (o := .cells #[.int .i64 a0_0, .int .i64 a0_1, .int .i64 a0_2, .slice A0_3 l0_3.length c0_3] 32 (0, 0)) (by (with_reducible repeat (first | refine blk_drewN ?_ _ | refine blk_drew ?_ | refine blk_alloc ?_ _)); exact BK216101.out) hg (Kd.R_ne HO_7.out BK216101.out (by decide))); have n2_ := Aside0.mk (hb); have n3_ := Aside0.mk (ho); clear HO_6; clear BK216101; clear HB; clear HO_7; have HO_6 := n0_; have BK216101 := n1_; have HB := n2_; have HO216112 := n3_; clear n0_ n1_ n2_ n3_; clear ho hb hg hat))
               go_roundg k2
               case measure => have := HK1.out; have := HK2.out; omega
               case rel => exact ⟨(t216108), (y216110), (wrap64 (x8_1 - 1)), (by first | rfl | (simp; done) | (simp [*]; done)), (by first | rfl | (simp; done) | (simp [*]; done)), H', ⟨by have := HK1.out; have := HK2.out; omega⟩, ⟨by (with_reducible repeat (first | apply Kd.R_alloc | apply Kd.R_drewN | apply Kd.R_drew)); exact Kd.R_mono HO_6.out (fun _ hk => hk.2)⟩, ⟨by (with_reducible repeat (first | apply Kd.R_alloc | apply Kd.R_drewN | apply Kd.R_drew)); exact HO216112.out⟩, ⟨by (with_reducible repeat (first | refine blk_drewN ?_ _ | refine blk_drew ?_ | refine blk_alloc ?_ _)); exact BK216101.out⟩, ⟨by repeat (first | (with_reducible first | exact HB.out | apply below_alloc | apply pw_below_drewN | apply below_drew1 | refine below_set ?_ GE216101.out) | exact HB.out)⟩⟩
              ·rw [if_neg c27] at H
               exact absurd H (by simp)
             ·rw [if_neg c26] at H
              have c26b0 : ((rd t216103 t216108) == (wrap64 (x8_1 - 1))) = false := beq_eq_false_iff_ne.mpr c26
              have c26b1 : ((rd t216103 t216108) != (wrap64 (x8_1 - 1))) = true := bne_iff_ne.mpr c26
              have H' := Aside0.mk H
              clear H
              have hcz31_0 : wr.cell? ⟨gb216101, 0, none⟩ = some (.int .i64 a0_0) := (blk_cell BK216101.out 0).trans rfl
              have hcz31_1 : wr.cell? ⟨gb216101, 1, none⟩ = some (.int .i64 a0_1) := (blk_cell BK216101.out 1).trans rfl
              have hcz31_2 : wr.cell? ⟨gb216101, 2, none⟩ = some (.int .i64 a0_2) := (blk_cell BK216101.out 2).trans rfl
              have hcz31_3 : wr.cell? ⟨gb216101, 3, none⟩ = some (.slice A0_3 l0_3.length c0_3) := (blk_cell BK216101.out 3).trans rfl
              have hfz31_0 := blk_frozen BK216101.out 0
              have hfz31_1 := blk_frozen BK216101.out 1
              have hfz31_2 := blk_frozen BK216101.out 2
              have hfz31_3 := blk_frozen BK216101.out 3
              go_wp2_with (first | ((with_reducible refine gate_callee (f := 137) rfl ?_); refine goesL_ (some 39) rfl rfl Try.func137 (by kernel_rfl) rfl #[.agg #[.int .i64 a0_0, .int .i64 a0_1, .int .i64 a0_2, .slice A0_3 l0_3.length c0_3], .int .i64 x1_2, .int .i64 x9_2] rfl (by (try simp only [List.map_toArray, List.map_cons, List.map_nil]); first | done | rfl | (simp only [List.length_drop, List.length_take]; rfl)) ?_; (with_reducible refine (spec_sqThrow.calls k2 a0_0 a0_1 a0_2 _ _ l0_3 x1_2 x9_2 t216108 _ ?side1 ?side2 A23.out).mono ?_); (case side1 => repeat (first | exact (Kd.C_below HR0_3.out HB.out) | (with_reducible refine Kd.C_alloc ?_ _) | (with_reducible refine Kd.C_drewN ?_ _) | (with_reducible refine Kd.C_drew ?_))); (case side2 => exact HC0_3.out); rintro e w32 ⟨rfl, hb⟩; refine ⟨_, rfl, ?_⟩; have n0_ := Aside0.mk (Kd.R_below (by (with_reducible repeat (first | apply Kd.R_alloc | apply Kd.R_drewN | apply Kd.R_drew)); exact HO_6.out) hb); have n1_ := Aside0.mk (Kd.R_below (by (with_reducible repeat (first | apply Kd.R_alloc | apply Kd.R_drewN | apply Kd.R_drew)); exact HO_7.out) hb); have n2_ := Aside0.mk (blk_below (g := gb216101) (o := .cells #[.int .i64 a0_0, .int .i64 a0_1, .int .i64 a0_2, .slice A0_3 l0_3.length c0_3] 32 (0, 0)) (by (with_reducible repeat (first | refine blk_drewN ?_ _ | refine blk_drew ?_ | refine blk_alloc ?_ _)); exact BK216101.out) hb); have n3_ := Aside0.mk (below_step (by repeat (first | (with_reducible first | exact HB.out | apply below_alloc | apply pw_below_drewN | apply below_drew1 | refine below_set ?_ GE216101.out) | exact HB.out)) hb); clear HO_6; clear HO_7; clear BK216101; clear HB; have HO_6 := n0_; have HO_7 := n1_; have BK216101 := n2_; have HB := n3_; clear n0_ n1_ n2_ n3_; (try clear hb); (try clear hb2); (try clear hk); (try clear hi); have p216109 : 0 ≤ (t216108 : Int) := of_decide_eq_true (by first | (with_reducible assumption) | assumption); have q216109 : t216108 < (t216103.length : Int) := of_decide_eq_true (by first | (with_reducible assumption) | assumption); obtain ⟨ad216109, e216109, hx216109_0⟩ := Kd.at_int (Kd.R_reads' HO_6.out).2.2 t216108 p216109 q216109; obtain rfl : ad216106 = ad216109 := (by injection e216109); replace p216109 := eq_true p216109; replace q216109 := eq_true q216109))
              go_roundg k2
              case measure => have := HK1.out; have := HK2.out; omega
              case rel => exact ⟨(x1_2), (x7_2), (wrap64 (x9_2 + 1)), (by first | rfl | (simp; done) | (simp [*]; done)), (by first | rfl | (simp; done) | (simp [*]; done)), H', ⟨by have := HK1.out; have := HK2.out; omega⟩, ⟨by (with_reducible repeat (first | apply Kd.R_alloc | apply Kd.R_drewN | apply Kd.R_drew)); exact HO_6.out⟩, ⟨by (with_reducible repeat (first | apply Kd.R_alloc | apply Kd.R_drewN | apply Kd.R_drew)); exact HO_7.out⟩, ⟨by (with_reducible repeat (first | refine blk_drewN ?_ _ | refine blk_drew ?_ | refine blk_alloc ?_ _)); exact BK216101.out⟩, ⟨by repeat (first | (with_reducible first | exact HB.out | apply below_alloc | apply pw_below_drewN | apply below_drew1 | refine below_set ?_ GE216101.out) | exact HB.out)⟩⟩
            ·rw [if_neg c25] at H
             exact absurd H (by simp)
           ·rw [if_neg c24] at H
            exact absurd H (by simp)
          ·rw [if_neg c22] at H
           have c22b0 : decide (x9_2 ≤ a0_1) = false := decide_eq_false c22
           clear c22
           have H' := Aside0.mk H
           clear H
           have hcz33_0 : wr.cell? ⟨gb216101, 0, none⟩ = some (.int .i64 a0_0) := (blk_cell BK216101.out 0).trans rfl
           have hcz33_1 : wr.cell? ⟨gb216101, 1, none⟩ = some (.int .i64 a0_1) := (blk_cell BK216101.out 1).trans rfl
           have hcz33_2 : wr.cell? ⟨gb216101, 2, none⟩ = some (.int .i64 a0_2) := (blk_cell BK216101.out 2).trans rfl
           have hcz33_3 : wr.cell? ⟨gb216101, 3, none⟩ = some (.slice A0_3 l0_3.length c0_3) := (blk_cell BK216101.out 3).trans rfl
           have hfz33_0 := blk_frozen BK216101.out 0
           have hfz33_1 := blk_frozen BK216101.out 1
           have hfz33_2 := blk_frozen BK216101.out 2
           have hfz33_3 := blk_frozen BK216101.out 3
           go_wp2
           go_roundg k2
           case measure => have := HK1.out; have := HK2.out; omega
           case rel => exact ⟨(x1_2), (x7_2), (wrap64 (x8_1 - 1)), (by first | rfl | (simp; done) | (simp [*]; done)), (by first | rfl | (simp; done) | (simp [*]; done)), H', ⟨by have := HK1.out; have := HK2.out; omega⟩, ⟨by (with_reducible repeat (first | apply Kd.R_alloc | apply Kd.R_drewN | apply Kd.R_drew)); exact HO_6.out⟩, ⟨by (with_reducible repeat (first | apply Kd.R_alloc | apply Kd.R_drewN | apply Kd.R_drew)); exact HO_7.out⟩, ⟨by (with_reducible repeat (first | refine blk_drewN ?_ _ | refine blk_drew ?_ | refine blk_alloc ?_ _)); exact BK216101.out⟩, ⟨by repeat (first | (with_reducible first | exact HB.out | apply below_alloc | apply pw_below_drewN | apply below_drew1 | refine below_set ?_ GE216101.out) | exact HB.out)⟩⟩
       ·rw [if_neg c21] at H
        have c21b0 : decide (0 < x8_1) = false := decide_eq_false c21
        clear c21
        simp only [Option.some.injEq, Prod.mk.injEq] at H
        obtain ⟨rfl, rfl⟩ := H
        go_wp2
        go_ret2
        exact ⟨_, by first | rfl | (simp [errW_none, errW_some] <;> rfl) | (simp [*, errW_none, errW_some] <;> rfl), by (with_reducible repeat (first | apply Kd.R_alloc | apply Kd.R_drewN | apply Kd.R_drew)); exact Kd.R_mono HO_7.out (fun _ hk => trivial), by repeat (first | (with_reducible first | exact HB.out | apply below_alloc | apply pw_below_drewN | apply below_drew1 | refine below_set ?_ GE216101.out) | exact HB.out)⟩
   ·rw [if_neg c7] at H
    exact absurd H (by simp)
  ·rw [if_neg c6] at H
   exact absurd H (by simp)
 ·replace c4 := Bool.eq_false_iff.mpr c4
  subst c4
  have H1 : (some (([] : List Int), false)) = some (r1, r2) := by rw [if_neg (show ¬ (false = true) by decide)] at H; exact H
  clear H
  have H := H1
  clear H1
  simp only [Option.some.injEq, Prod.mk.injEq] at H
  obtain ⟨rfl, rfl⟩ := H
  go_enter Try.func108, Try.ntmps108
  go_wp2_with (first | ((with_reducible refine gate_dst (N := 2) rfl ?_); refine box_event ?hg (N := 2) ?hd (cs := #[.int .i64 a0_0, .int .i64 a0_1, .int .i64 a0_2, .slice A0_3 l0_3.length c0_3]) (t := 32) ?hr ?_; (case hd => rfl); (case hg => rfl); (case hr => first | (go_simp; done) | (go_simp; rfl)); intro gb216101 hg w34 hbox hb; have n0_ := Aside0.mk (below_step (by repeat (first | (with_reducible first | exact HB.out | apply below_alloc | apply pw_below_drewN | apply below_drew1) | exact HB.out)) hb); have n1_ := Aside0.mk (hbox); have n2_ := Aside0.mk ((by rw [hg]; exact (below_size (by repeat (first | (with_reducible first | exact HB.out | apply below_alloc | apply pw_below_drewN | apply below_drew1) | exact HB.out))) : w.heap.size ≤ gb216101)); have n3_ := Aside0.mk ((by rw [hg]; exact (below_size (by repeat (first | (with_reducible first | exact HB.out | apply below_alloc | apply pw_below_drewN | apply below_drew1) | exact HB.out))) : w.heap.size ≤ gb216101)); clear HB; have HB := n0_; have BK216101 := n1_; have GW216101 := n2_; have GE216101 := n3_; clear n0_ n1_ n2_ n3_; clear hb hbox hg; have hcz35_0 : w34.cell? ⟨gb216101, 0, none⟩ = some (.int .i64 a0_0) := (blk_cell BK216101.out 0).trans rfl; have hcz35_1 : w34.cell? ⟨gb216101, 1, none⟩ = some (.int .i64 a0_1) := (blk_cell BK216101.out 1).trans rfl; have hcz35_2 : w34.cell? ⟨gb216101, 2, none⟩ = some (.int .i64 a0_2) := (blk_cell BK216101.out 2).trans rfl; have hcz35_3 : w34.cell? ⟨gb216101, 3, none⟩ = some (.slice A0_3 l0_3.length c0_3) := (blk_cell BK216101.out 3).trans rfl; have hfz35_0 := blk_frozen BK216101.out 0; have hfz35_1 := blk_frozen BK216101.out 1; have hfz35_2 := blk_frozen BK216101.out 2; have hfz35_3 := blk_frozen BK216101.out 3) | ((with_reducible refine gate_callee (f := 135) rfl ?_); refine goesL_ (some 13) rfl rfl Try.func135 (by kernel_rfl) rfl #[.agg #[.int .i64 a0_0, .int .i64 a0_1, .int .i64 a0_2, .slice A0_3 l0_3.length c0_3], .int .i64 a1] rfl (by (try simp only [List.map_toArray, List.map_cons, List.map_nil]); first | done | rfl | (simp only [List.length_drop, List.length_take]; rfl)) ?_; (with_reducible refine (spec_sqAsked.calls k a0_0 a0_1 a0_2 _ _ l0_3 a1 false _ ?side1 ?side2 A3.out).mono ?_); (case side1 => repeat (first | exact (Kd.C_below HR0_3.out HB.out) | (with_reducible refine Kd.C_alloc ?_ _) | (with_reducible refine Kd.C_drewN ?_ _) | (with_reducible refine Kd.C_drew ?_))); (case side2 => exact HC0_3.out); rintro e w36 ⟨rfl, hb⟩; refine ⟨_, rfl, ?_⟩; have n0_ := Aside0.mk (blk_below (g := gb216101) (o := .cells #[.int .i64 a0_0, .int .i64 a0_1, .int .i64 a0_2, .slice A0_3 l0_3.length c0_3] 32 (0, 0)) (by (with_reducible repeat (first | refine blk_drewN ?_ _ | refine blk_drew ?_ | refine blk_alloc ?_ _)); exact BK216101.out) hb); have n1_ := Aside0.mk (below_step (by repeat (first | (with_reducible first | exact HB.out | apply below_alloc | apply pw_below_drewN | apply below_drew1 | refine below_set ?_ GE216101.out) | exact HB.out)) hb); clear BK216101; clear HB; have BK216101 := n0_; have HB := n1_; clear n0_ n1_; (try clear hb); (try clear hb2); (try clear hk); (try clear hi)))
  go_ret2
  exact ⟨_, by first | rfl | (simp [errW_none, errW_some] <;> rfl) | (simp [*, errW_none, errW_some] <;> rfl), by first | exact Kd.R_nil _ _ _ _ _ | exact Kd.N_nil _ _ _ _ _ | exact Kd.V_nil _ _ _ _ _ | exact Kd.Q_nil _ _ _ _ _ | exact Kd.S_nil _ _ _ _ _, by repeat (first | (with_reducible first | exact HB.out | apply below_alloc | apply pw_below_drewN | apply below_drew1 | refine below_set ?_ GE216101.out) | exact HB.out)⟩

end Go.Proofs.Ytkobjjadojpjfaa.Pr
