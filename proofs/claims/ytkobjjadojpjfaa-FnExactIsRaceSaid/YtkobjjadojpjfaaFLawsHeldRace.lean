-- A text of the machine side, written by wip/gen.py of this repo out of the translation. Not trusted: Lean checks it.
import Derived.Test.YtkobjjadojpjfaaF0
import Derived.Test.YtkobjjadojpjfaaFGA
namespace Go.Proofs.Ytkobjjadojpjfaa.Pr
open Go.RowKit Go.Proofs.YtkobjjadojpjfaaW.PrintWords Go.Proofs.YtkobjjadojpjfaaW.PrintLast Go.Proofs.YtkobjjadojpjfaaW.PrintMore
attribute [local go_sem] max2_int min2_int max_two min_two max_three min_three max_four min_four   -- for this text's walks alone
set_option linter.unusedVariables false
set_option linter.unusedSimpArgs false

/-! ### laws_heldRace: function 76 -/
def laws_heldRace.f (k : Nat) (a0_0 : Int) (a0_1 : Int) (a0_2 : Int) (l0_3 : List (S27)) (a0_4 : Int) (a0_5 : Int) (a0_6 : Int) (a1 : Int) : Option (Int) := (laws_heldBoard.f k a0_0 a0_1 a0_2 l0_3 a1).bind fun t152102 => (if t152102 < 0 then (some (-1)) else (some t152102))
theorem laws_heldRace.mono : ∀ a0 a1 a2 a3 a4 a5 a6 a7 k, LeO (laws_heldRace.f k a0 a1 a2 a3 a4 a5 a6 a7) (laws_heldRace.f (k + 1) a0 a1 a2 a3 a4 a5 a6 a7) := by
  intro a0 a1 a2 a3 a4 a5 a6 a7 k
  unfold laws_heldRace.f
  repeat' first
      | (with_reducible exact laws_heldBoard.mono _ _ _ _ _ _)
      | (with_reducible exact LeO.refl _)
      | (with_reducible exact LeO.none _)
      | (with_reducible refine LeO.ite ?_ ?_)
      | (with_reducible refine LeO.bind ?_ (fun _ => ?_))
      | exact laws_heldBoard.mono _ _ _ _ _ _
      | exact LeO.none _
      | refine LeO.ite ?_ ?_
      | refine LeO.bind ?_ (fun _ => ?_)
set_option maxHeartbeats 8000000 in
set_option maxRecDepth 100000 in
theorem laws_heldRace.calls (k : Nat) (a0_0 : Int) (a0_1 : Int) (a0_2 : Int) (A0_3 : Option Addr) (c0_3 : Nat) (l0_3 : List (S27)) (a0_4 : Int) (a0_5 : Int) (a0_6 : Int) (a1 : Int) (r : Int) (w : World) (hr0_3 : Kd.C k27 w A0_3 l0_3.length l0_3) (hc0_3 : l0_3.length ≤ c0_3) (h : laws_heldRace.f k a0_0 a0_1 a0_2 l0_3 a0_4 a0_5 a0_6 a1 = some r) :
    Calls Try.prog 76 #[.agg #[.int .i64 a0_0, .int .i64 a0_1, .int .i64 a0_2, .slice A0_3 l0_3.length c0_3, .int .i64 a0_4, .int .i64 a0_5, .int .i64 a0_6], .int .i64 a1] w fun e w' => e = .returned (.int .i64 r) ∧ Below w.heap.size w w' := by
  have hu47 := Try.underlying47
  have hu32 := Try.underlying32
  have HR0_3 := Aside0.mk hr0_3
  have HC0_3 := Aside0.mk hc0_3
  clear hr0_3 hc0_3
  have HB := Aside0.mk (Below.refl w.heap.size w)
  have H : ((laws_heldBoard.f k a0_0 a0_1 a0_2 l0_3 a1).bind fun t152102 => (if t152102 < 0 then (some (-1)) else (some t152102))) = some r := h
  clear h
  replace H := Option.bind_eq_some_iff.mp H
  obtain ⟨t152102, A30, H⟩ := H
  replace H : (if t152102 < 0 then (some (-1)) else (some t152102)) = some r := H
  have A3 := Aside0.mk A30
  clear A30
  by_cases c4 : t152102 < 0
  · rw [if_pos c4] at H
    have c4b0 : decide (t152102 < 0) = true := decide_eq_true c4
    clear c4
    obtain rfl := Option.some.inj H
    go_enter Try.func76, Try.ntmps76
    go_wp2_with (first | ((with_reducible refine gate_dst (N := 2) rfl ?_); refine box_event ?hg (N := 2) ?hd (cs := #[.int .i64 a0_0, .int .i64 a0_1, .int .i64 a0_2, .slice A0_3 l0_3.length c0_3, .int .i64 a0_4, .int .i64 a0_5, .int .i64 a0_6]) (t := 47) ?hr ?_; (case hd => rfl); (case hg => rfl); (case hr => first | (go_simp; done) | (go_simp; rfl)); intro gb152101 hg w5 hbox hb; have n0_ := Aside0.mk (below_step (by repeat (first | (with_reducible first | exact HB.out | apply below_alloc | apply pw_below_drewN | apply below_drew1) | exact HB.out)) hb); have n1_ := Aside0.mk (hbox); have n2_ := Aside0.mk ((by rw [hg]; exact (below_size (by repeat (first | (with_reducible first | exact HB.out | apply below_alloc | apply pw_below_drewN | apply below_drew1) | exact HB.out))) : w.heap.size ≤ gb152101)); have n3_ := Aside0.mk ((by rw [hg]; exact (below_size (by repeat (first | (with_reducible first | exact HB.out | apply below_alloc | apply pw_below_drewN | apply below_drew1) | exact HB.out))) : w.heap.size ≤ gb152101)); clear HB; have HB := n0_; have BK152101 := n1_; have GW152101 := n2_; have GE152101 := n3_; clear n0_ n1_ n2_ n3_; clear hb hbox hg; have hcz6_0 : w5.cell? ⟨gb152101, 0, none⟩ = some (.int .i64 a0_0) := (blk_cell BK152101.out 0).trans rfl; have hcz6_1 : w5.cell? ⟨gb152101, 1, none⟩ = some (.int .i64 a0_1) := (blk_cell BK152101.out 1).trans rfl; have hcz6_2 : w5.cell? ⟨gb152101, 2, none⟩ = some (.int .i64 a0_2) := (blk_cell BK152101.out 2).trans rfl; have hcz6_3 : w5.cell? ⟨gb152101, 3, none⟩ = some (.slice A0_3 l0_3.length c0_3) := (blk_cell BK152101.out 3).trans rfl; have hcz6_4 : w5.cell? ⟨gb152101, 4, none⟩ = some (.int .i64 a0_4) := (blk_cell BK152101.out 4).trans rfl; have hcz6_5 : w5.cell? ⟨gb152101, 5, none⟩ = some (.int .i64 a0_5) := (blk_cell BK152101.out 5).trans rfl; have hcz6_6 : w5.cell? ⟨gb152101, 6, none⟩ = some (.int .i64 a0_6) := (blk_cell BK152101.out 6).trans rfl; have hfz6_0 := blk_frozen BK152101.out 0; have hfz6_1 := blk_frozen BK152101.out 1; have hfz6_2 := blk_frozen BK152101.out 2; have hfz6_3 := blk_frozen BK152101.out 3; have hfz6_4 := blk_frozen BK152101.out 4; have hfz6_5 := blk_frozen BK152101.out 5; have hfz6_6 := blk_frozen BK152101.out 6) | ((with_reducible refine gate_callee (f := 48) rfl ?_); refine goesL_ (some 8) rfl rfl Try.func48 (by kernel_rfl) rfl #[.agg #[.int .i64 a0_0, .int .i64 a0_1, .int .i64 a0_2, .slice A0_3 l0_3.length c0_3], .int .i64 a1] rfl (by (try simp only [List.map_toArray, List.map_cons, List.map_nil]); first | done | rfl | (simp only [List.length_drop, List.length_take]; rfl)) ?_; (with_reducible refine (laws_heldBoard.calls k a0_0 a0_1 a0_2 _ _ l0_3 a1 t152102 _ ?side1 ?side2 A3.out).mono ?_); (case side1 => repeat (first | exact (Kd.C_below HR0_3.out HB.out) | (with_reducible refine Kd.C_alloc ?_ _) | (with_reducible refine Kd.C_drewN ?_ _) | (with_reducible refine Kd.C_drew ?_))); (case side2 => exact HC0_3.out); rintro e w7 ⟨rfl, hb⟩; refine ⟨_, rfl, ?_⟩; have n0_ := Aside0.mk (blk_below (g := gb152101) (o := .cells #[.int .i64 a0_0, .int .i64 a0_1, .int .i64 a0_2, .slice A0_3 l0_3.length c0_3, .int .i64 a0_4, .int .i64 a0_5, .int .i64 a0_6] 47 (0, 0)) (by (with_reducible repeat (first | refine blk_drewN ?_ _ | refine blk_drew ?_ | refine blk_alloc ?_ _)); exact BK152101.out) hb); have n1_ := Aside0.mk (below_step (by repeat (first | (with_reducible first | exact HB.out | apply below_alloc | apply pw_below_drewN | apply below_drew1 | refine below_set ?_ GE152101.out) | exact HB.out)) hb); clear BK152101; clear HB; have BK152101 := n0_; have HB := n1_; clear n0_ n1_; (try clear hb); (try clear hb2); (try clear hk); (try clear hi)))
    go_ret
    exact ⟨by first | rfl | (simp [errW_none, errW_some] <;> rfl) | (simp [*, errW_none, errW_some] <;> rfl), by repeat (first | (with_reducible first | exact HB.out | apply below_alloc | apply pw_below_drewN | apply below_drew1 | refine below_set ?_ GE152101.out) | exact HB.out)⟩
  · rw [if_neg c4] at H
    have c4b0 : decide (t152102 < 0) = false := decide_eq_false c4
    clear c4
    obtain rfl := Option.some.inj H
    go_enter Try.func76, Try.ntmps76
    go_wp2_with (first | ((with_reducible refine gate_dst (N := 2) rfl ?_); refine box_event ?hg (N := 2) ?hd (cs := #[.int .i64 a0_0, .int .i64 a0_1, .int .i64 a0_2, .slice A0_3 l0_3.length c0_3, .int .i64 a0_4, .int .i64 a0_5, .int .i64 a0_6]) (t := 47) ?hr ?_; (case hd => rfl); (case hg => rfl); (case hr => first | (go_simp; done) | (go_simp; rfl)); intro gb152101 hg w8 hbox hb; have n0_ := Aside0.mk (below_step (by repeat (first | (with_reducible first | exact HB.out | apply below_alloc | apply pw_below_drewN | apply below_drew1) | exact HB.out)) hb); have n1_ := Aside0.mk (hbox); have n2_ := Aside0.mk ((by rw [hg]; exact (below_size (by repeat (first | (with_reducible first | exact HB.out | apply below_alloc | apply pw_below_drewN | apply below_drew1) | exact HB.out))) : w.heap.size ≤ gb152101)); have n3_ := Aside0.mk ((by rw [hg]; exact (below_size (by repeat (first | (with_reducible first | exact HB.out | apply below_alloc | apply pw_below_drewN | apply below_drew1) | exact HB.out))) : w.heap.size ≤ gb152101)); clear HB; have HB := n0_; have BK152101 := n1_; have GW152101 := n2_; have GE152101 := n3_; clear n0_ n1_ n2_ n3_; clear hb hbox hg; have hcz9_0 : w8.cell? ⟨gb152101, 0, none⟩ = some (.int .i64 a0_0) := (blk_cell BK152101.out 0).trans rfl; have hcz9_1 : w8.cell? ⟨gb152101, 1, none⟩ = some (.int .i64 a0_1) := (blk_cell BK152101.out 1).trans rfl; have hcz9_2 : w8.cell? ⟨gb152101, 2, none⟩ = some (.int .i64 a0_2) := (blk_cell BK152101.out 2).trans rfl; have hcz9_3 : w8.cell? ⟨gb152101, 3, none⟩ = some (.slice A0_3 l0_3.length c0_3) := (blk_cell BK152101.out 3).trans rfl; have hcz9_4 : w8.cell? ⟨gb152101, 4, none⟩ = some (.int .i64 a0_4) := (blk_cell BK152101.out 4).trans rfl; have hcz9_5 : w8.cell? ⟨gb152101, 5, none⟩ = some (.int .i64 a0_5) := (blk_cell BK152101.out 5).trans rfl; have hcz9_6 : w8.cell? ⟨gb152101, 6, none⟩ = some (.int .i64 a0_6) := (blk_cell BK152101.out 6).trans rfl; have hfz9_0 := blk_frozen BK152101.out 0; have hfz9_1 := blk_frozen BK152101.out 1; have hfz9_2 := blk_frozen BK152101.out 2; have hfz9_3 := blk_frozen BK152101.out 3; have hfz9_4 := blk_frozen BK152101.out 4; have hfz9_5 := blk_frozen BK152101.out 5; have hfz9_6 := blk_frozen BK152101.out 6) | ((with_reducible refine gate_callee (f := 48) rfl ?_); refine goesL_ (some 8) rfl rfl Try.func48 (by kernel_rfl) rfl #[.agg #[.int .i64 a0_0, .int .i64 a0_1, .int .i64 a0_2, .slice A0_3 l0_3.length c0_3], .int .i64 a1] rfl (by (try simp only [List.map_toArray, List.map_cons, List.map_nil]); first | done | rfl | (simp only [List.length_drop, List.length_take]; rfl)) ?_; (with_reducible refine (laws_heldBoard.calls k a0_0 a0_1 a0_2 _ _ l0_3 a1 t152102 _ ?side1 ?side2 A3.out).mono ?_); (case side1 => repeat (first | exact (Kd.C_below HR0_3.out HB.out) | (with_reducible refine Kd.C_alloc ?_ _) | (with_reducible refine Kd.C_drewN ?_ _) | (with_reducible refine Kd.C_drew ?_))); (case side2 => exact HC0_3.out); rintro e w10 ⟨rfl, hb⟩; refine ⟨_, rfl, ?_⟩; have n0_ := Aside0.mk (blk_below (g := gb152101) (o := .cells #[.int .i64 a0_0, .int .i64 a0_1, .int .i64 a0_2, .slice A0_3 l0_3.length c0_3, .int .i64 a0_4, .int .i64 a0_5, .int .i64 a0_6] 47 (0, 0)) (by (with_reducible repeat (first | refine blk_drewN ?_ _ | refine blk_drew ?_ | refine blk_alloc ?_ _)); exact BK152101.out) hb); have n1_ := Aside0.mk (below_step (by repeat (first | (with_reducible first | exact HB.out | apply below_alloc | apply pw_below_drewN | apply below_drew1 | refine below_set ?_ GE152101.out) | exact HB.out)) hb); clear BK152101; clear HB; have BK152101 := n0_; have HB := n1_; clear n0_ n1_; (try clear hb); (try clear hb2); (try clear hk); (try clear hi)))
    go_ret
    exact ⟨by first | rfl | (simp [errW_none, errW_some] <;> rfl) | (simp [*, errW_none, errW_some] <;> rfl), by repeat (first | (with_reducible first | exact HB.out | apply below_alloc | apply pw_below_drewN | apply below_drew1 | refine below_set ?_ GE152101.out) | exact HB.out)⟩

end Go.Proofs.Ytkobjjadojpjfaa.Pr
