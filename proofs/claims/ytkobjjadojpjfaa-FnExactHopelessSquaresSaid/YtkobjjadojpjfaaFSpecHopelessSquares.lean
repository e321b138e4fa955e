-- A text of the machine side, written by wip/gen.py of this repo out of the translation. Not trusted: Lean checks it.
import Derived.Test.YtkobjjadojpjfaaF0
import Derived.Test.YtkobjjadojpjfaaFGC
import Derived.Test.YtkobjjadojpjfaaFSpecSqFar
namespace Go.Proofs.Ytkobjjadojpjfaa.Pr
open Go.RowKit Go.Proofs.YtkobjjadojpjfaaW.PrintWords Go.Proofs.YtkobjjadojpjfaaW.PrintLast Go.Proofs.YtkobjjadojpjfaaW.PrintMore
attribute [local go_sem] max2_int min2_int max_two min_two max_three min_three max_four min_four   -- for this text's walks alone
set_option linter.unusedVariables false
set_option linter.unusedSimpArgs false

/-! ### spec_HopelessSquares: function 95 -/
def spec_HopelessSquares.l0 : Nat → List Int → List Int → Int → Int → Int → Int → Int → List (S27) → Option (List Int × Bool)
 | 0, _, _, _, _, _, _, _, _ => none
 | k + 1, x4, x11, x12, x13, x190102000, x190102001, x190102002, x190102003 => if x13 < x12 then (if 0 ≤ x13 then (if x13 < (x11.length : Int) then (if (rd x11 x13) < 0 then ((spec_sqSquare.f k x190102000 x190102001 x190102002 x190102003 x13).bind fun t190107 => (if t190107 = true then (if x4.length < 17592186044416 then (spec_HopelessSquares.l0 k (x4 ++ [x13]) x11 x12 (wrap64 (x13 + 1)) x190102000 x190102001 x190102002 x190102003) else (none)) else (spec_HopelessSquares.l0 k x4 x11 x12 (wrap64 (x13 + 1)) x190102000 x190102001 x190102002 x190102003))) else (spec_HopelessSquares.l0 k x4 x11 x12 (wrap64 (x13 + 1)) x190102000 x190102001 x190102002 x190102003)) else (none)) else (none)) else (some (x4, true))
def spec_HopelessSquares.f (k : Nat) (a0_0 : Int) (a0_1 : Int) (a0_2 : Int) (l0_3 : List (S27)) : Option (List Int × Bool) := (spec_sqGood.f k a0_0 a0_1 a0_2 l0_3).bind fun t190102 => (if t190102 = true then ((spec_sqFar.f k a0_0 a0_1 a0_2 l0_3).bind fun t190103 => (spec_HopelessSquares.l0 k ([] : List Int) t190103 (t190103.length : Int) 0 a0_0 a0_1 a0_2 l0_3)) else (some (([] : List Int), false)))
set_option maxHeartbeats 8000000 in
set_option maxRecDepth 100000 in
theorem spec_HopelessSquares.calls (k : Nat) (a0_0 : Int) (a0_1 : Int) (a0_2 : Int) (A0_3 : Option Addr) (c0_3 : Nat) (l0_3 : List (S27)) (r1 : List Int) (r2 : Bool) (w : World) (hr0_3 : Kd.C k27 w A0_3 l0_3.length l0_3) (hc0_3 : l0_3.length ≤ c0_3) (h : spec_HopelessSquares.f k a0_0 a0_1 a0_2 l0_3 = some (r1, r2)) :
  Calls Try.prog 95 #[.agg #[.int .i64 a0_0, .int .i64 a0_1, .int .i64 a0_2, .slice A0_3 l0_3.length c0_3]] w fun e w' => ∃ v0_ : Value, e = .returned (.tuple #[v0_, .bool r2]) ∧ Kd.R (Kd.int .i64) 3 w' w.heap.size (fun _ => True) v0_ r1 ∧ Below w.heap.size w w' := by
 have hu32 := Try.underlying32
 have HR0_3 := Aside0.mk hr0_3
 have HC0_3 := Aside0.mk hc0_3
 clear hr0_3 hc0_3
 have HB := Aside0.mk (Below.refl w.heap.size w)
 have H : ((spec_sqGood.f k a0_0 a0_1 a0_2 l0_3).bind fun t190102 => (if t190102 = true then ((spec_sqFar.f k a0_0 a0_1 a0_2 l0_3).bind fun t190103 => (spec_HopelessSquares.l0 k ([] : List Int) t190103 (t190103.length : Int) 0 a0_0 a0_1 a0_2 l0_3)) else (some (([] : List Int), false)))) = some (r1, r2) := h
 clear h
 replace H := Option.bind_eq_some_iff.mp H
 obtain ⟨t190102, A20, H⟩ := H
 replace H : (if t190102 = true then ((spec_sqFar.f k a0_0 a0_1 a0_2 l0_3).bind fun t190103 => (spec_HopelessSquares.l0 k ([] : List Int) t190103 (t190103.length : Int) 0 a0_0 a0_1 a0_2 l0_3)) else (some (([] : List Int), false))) = some (r1, r2) := H
 have A2 := Aside0.mk A20
 clear A20
 by_cases c3 : t190102 = true
 ·subst c3
  have H1 : ((spec_sqFar.f k a0_0 a0_1 a0_2 l0_3).bind fun t190103 => (spec_HopelessSquares.l0 k ([] : List Int) t190103 (t190103.length : Int) 0 a0_0 a0_1 a0_2 l0_3)) = some (r1, r2) := by rw [if_pos rfl] at H; exact H
  clear H
  have H := H1
  clear H1
  replace H := Option.bind_eq_some_iff.mp H
  obtain ⟨t190103, A40, H⟩ := H
  replace H : (spec_HopelessSquares.l0 k ([] : List Int) t190103 (t190103.length : Int) 0 a0_0 a0_1 a0_2 l0_3) = some (r1, r2) := H
  have A4 := Aside0.mk A40
  clear A40
  have H' := Aside0.mk H
  clear H
  go_enter Try.func95, Try.ntmps95
  go_wp2_with (first | ((with_reducible refine gate_dst (N := 1) rfl ?_); refine box_event ?hg (N := 1) ?hd (cs := #[.int .i64 a0_0, .int .i64 a0_1, .int .i64 a0_2, .slice A0_3 l0_3.length c0_3]) (t := 32) ?hr ?_; (case hd => rfl); (case hg => rfl); (case hr => first | (go_simp; done) | (go_simp; rfl)); intro gb190101 hg w5 hbox hb; have n0_ := Aside0.mk (below_step (by repeat (first | (with_reducible first | exact HB.out | apply below_alloc | apply pw_below_drewN | apply below_drew1) | exact HB.out)) hb); have n1_ := Aside0.mk (hbox); have n2_ := Aside0.mk ((by rw [hg]; exact (below_size (by repeat (first | (with_reducible first | exact HB.out | apply below_alloc | apply pw_below_drewN | apply below_drew1) | exact HB.out))) : w.heap.size ≤ gb190101)); have n3_ := Aside0.mk ((by rw [hg]; exact (below_size (by repeat (first | (with_reducible first | exact HB.out | apply below_alloc | apply pw_below_drewN | apply below_drew1) | exact HB.out))) : w.heap.size ≤ gb190101)); clear HB; have HB := n0_; have BK190101 := n1_; have GW190101 := n2_; have GE190101 := n3_; clear n0_ n1_ n2_ n3_; clear hb hbox hg; have hcz6_0 : w5.cell? ⟨gb190101, 0, none⟩ = some (.int .i64 a0_0) := (blk_cell BK190101.out 0).trans rfl; have hcz6_1 : w5.cell? ⟨gb190101, 1, none⟩ = some (.int .i64 a0_1) := (blk_cell BK190101.out 1).trans rfl; have hcz6_2 : w5.cell? ⟨gb190101, 2, none⟩ = some (.int .i64 a0_2) := (blk_cell BK190101.out 2).trans rfl; have hcz6_3 : w5.cell? ⟨gb190101, 3, none⟩ = some (.slice A0_3 l0_3.length c0_3) := (blk_cell BK190101.out 3).trans rfl; have hfz6_0 := blk_frozen BK190101.out 0; have hfz6_1 := blk_frozen BK190101.out 1; have hfz6_2 := blk_frozen BK190101.out 2; have hfz6_3 := blk_frozen BK190101.out 3) | ((with_reducible refine gate_callee (f := 125) rfl ?_); refine goesL_ (some 8) rfl rfl Try.func125 (by kernel_rfl) rfl #[.agg #[.int .i64 a0_0, .int .i64 a0_1, .int .i64 a0_2, .slice A0_3 l0_3.length c0_3]] rfl (by (try simp only [List.map_toArray, List.map_cons, List.map_nil]); first | done | rfl | (simp only [List.length_drop, List.length_take]; rfl)) ?_; (with_reducible refine (spec_sqGood.calls k a0_0 a0_1 a0_2 _ _ l0_3 true _ ?side1 ?side2 A2.out).mono ?_); (case side1 => repeat (first | exact (Kd.C_below HR0_3.out HB.out) | (with_reducible refine Kd.C_alloc ?_ _) | (with_reducible refine Kd.C_drewN ?_ _) | (with_reducible refine Kd.C_drew ?_))); (case side2 => exact HC0_3.out); rintro e w7 ⟨rfl, hb⟩; refine ⟨_, rfl, ?_⟩; have n0_ := Aside0.mk (blk_below (g := gb190101) (o := .cells #[.int .i64 a0_0, .int .i64 a0_1, .int .i64 a0_2, .slice A0_3 l0_3.length c0_3] 32 (0, 0)) (by (with_reducible repeat (first | refine blk_drewN ?_ _ | refine blk_drew ?_ | refine blk_alloc ?_ _)); exact BK190101.out) hb); have n1_ := Aside0.mk (below_step (by repeat (first | (with_reducible first | exact HB.out | apply below_alloc | apply pw_below_drewN | apply below_drew1 | refine below_set ?_ GE190101.out) | exact HB.out)) hb); clear BK190101; clear HB; have BK190101 := n0_; have HB := n1_; clear n0_ n1_; (try clear hb); (try clear hb2); (try clear hk); (try clear hi); have hcz8_0 : w7.cell? ⟨gb190101, 0, none⟩ = some (.int .i64 a0_0) := (blk_cell BK190101.out 0).trans rfl; have hcz8_1 : w7.cell? ⟨gb190101, 1, none⟩ = some (.int .i64 a0_1) := (blk_cell BK190101.out 1).trans rfl; have hcz8_2 : w7.cell? ⟨gb190101, 2, none⟩ = some (.int .i64 a0_2) := (blk_cell BK190101.out 2).trans rfl; have hcz8_3 : w7.cell? ⟨gb190101, 3, none⟩ = some (.slice A0_3 l0_3.length c0_3) := (blk_cell BK190101.out 3).trans rfl; have hfz8_0 := blk_frozen BK190101.out 0; have hfz8_1 := blk_frozen BK190101.out 1; have hfz8_2 := blk_frozen BK190101.out 2; have hfz8_3 := blk_frozen BK190101.out 3) | ((with_reducible refine gate_callee (f := 127) rfl ?_); refine goesL_ (some 11) rfl rfl Try.func127 (by kernel_rfl) rfl #[.agg #[.int .i64 a0_0, .int .i64 a0_1, .int .i64 a0_2, .slice A0_3 l0_3.length c0_3]] rfl (by (try simp only [List.map_toArray, List.map_cons, List.map_nil]); first | done | rfl | (simp only [List.length_drop, List.length_take]; rfl)) ?_; (with_reducible refine (spec_sqFar.calls k a0_0 a0_1 a0_2 _ _ l0_3 t190103 _ ?side1 ?side2 A4.out).mono ?_); (case side1 => repeat (first | exact (Kd.C_below HR0_3.out HB.out) | (with_reducible refine Kd.C_alloc ?_ _) | (with_reducible refine Kd.C_drewN ?_ _) | (with_reducible refine Kd.C_drew ?_))); (case side2 => exact HC0_3.out); rintro e w9 ⟨v190104, rfl, ho0, hb⟩; refine ⟨_, rfl, ?_⟩; have n0_ := Aside0.mk (Kd.R_lower ho0 (below_size (by repeat (first | (with_reducible first | exact HB.out | apply below_alloc | apply pw_below_drewN | apply below_drew1 | refine below_set ?_ GE190101.out) | exact HB.out)))); have n1_ := Aside0.mk (blk_below (g := gb190101) (o := .cells #[.int .i64 a0_0, .int .i64 a0_1, .int .i64 a0_2, .slice A0_3 l0_3.length c0_3] 32 (0, 0)) (by (with_reducible repeat (first | refine blk_drewN ?_ _ | refine blk_drew ?_ | refine blk_alloc ?_ _)); exact BK190101.out) hb); have n2_ := Aside0.mk (below_step (by repeat (first | (with_reducible first | exact HB.out | apply below_alloc | apply pw_below_drewN | apply below_drew1 | refine below_set ?_ GE190101.out) | exact HB.out)) hb); clear BK190101; clear HB; have HO190105 := n0_; have BK190101 := n1_; have HB := n2_; clear n0_ n1_ n2_; (try clear hb); (try clear hb2); (try clear hk); (try clear hi); (try clear ho0); obtain ⟨Ao10, co10, eo10⟩ := Kd.R_slice HO190105.out; subst eo10))
  go_loopg [4, 13] k (fun kq v4 v13 w' => ∃ (x4_1 : List Int) (x13_1 : Int), v13 = .int .i64 x13_1 ∧ Aside0 (spec_HopelessSquares.l0 kq x4_1 t190103 (t190103.length : Int) x13_1 a0_0 a0_1 a0_2 l0_3 = some (r1, r2)) ∧ Aside0 (kq ≤ k) ∧ Aside0 (Kd.R (Kd.int .i64) 3 w' w.heap.size (fun k_ => some k_ ≠ ((.slice Ao10 t190103.length co10) : Value).ownBlock) v4 x4_1) ∧ Aside0 (Kd.R (Kd.int .i64) 3 w' w.heap.size (fun k_ => some k_ ≠ (v4 : Value).ownBlock) (.slice Ao10 t190103.length co10) t190103) ∧ Aside0 (w'.heap[gb190101]? = some (.cells #[.int .i64 a0_0, .int .i64 a0_1, .int .i64 a0_2, (.slice A0_3 l0_3.length c0_3)] 32 (0, 0))) ∧ Aside0 (Below w.heap.size w w'))
  case atStart => exact ⟨(([] : List Int)), (0), (by first | rfl | (simp; done) | (simp [*]; done)), H', ⟨Nat.le_refl _⟩, ⟨by first | exact Kd.R_nil _ _ _ _ _ | exact Kd.N_nil _ _ _ _ _ | exact Kd.V_nil _ _ _ _ _ | exact Kd.Q_nil _ _ _ _ _ | exact Kd.S_nil _ _ _ _ _⟩, ⟨by (with_reducible repeat (first | apply Kd.R_alloc | apply Kd.R_drewN | apply Kd.R_drew)); exact Kd.R_mono HO190105.out (fun _ hk => (by simp [Value.ownBlock]))⟩, ⟨by (with_reducible repeat (first | refine blk_drewN ?_ _ | refine blk_drew ?_ | refine blk_alloc ?_ _)); exact BK190101.out⟩, ⟨by repeat (first | (with_reducible first | exact HB.out | apply below_alloc | apply pw_below_drewN | apply below_drew1 | refine below_set ?_ GE190101.out) | exact HB.out)⟩⟩
  case round =>
   clear H'
   try clear c1
   try clear p2
   try clear c3
   try clear c9
   try clear hcz6_0
   try clear hcz6_1
   try clear hcz6_2
   try clear hcz6_3
   try clear hcz8_0
   try clear hcz8_1
   try clear hcz8_2
   try clear hcz8_3
   try clear hfz6_0
   try clear hfz6_1
   try clear hfz6_2
   try clear hfz6_3
   try clear hfz8_0
   try clear hfz8_1
   try clear hfz8_2
   try clear hfz8_3
   obtain ⟨x4_1, x13_1, rfl, HA, HK1, HO_4, HO_11, BK190101, HB⟩ := hrel
   cases gk with
   | zero => exact absurd HA.out (by simp [spec_HopelessSquares.l0])
   | succ k1 =>
    have H := HA.out
    clear HA
    simp only [spec_HopelessSquares.l0] at H
    by_cases c11 : x13_1 < (t190103.length : Int)
    ·rw [if_pos c11] at H
     have c11b0 : decide (x13_1 < (t190103.length : Int)) = true := decide_eq_true c11
     clear c11
     by_cases c12 : 0 ≤ x13_1
     ·rw [if_pos c12] at H
      have c12b0 : decide (0 ≤ x13_1) = true := decide_eq_true c12
      clear c12
      by_cases c13 : x13_1 < (t190103.length : Int)
      ·rw [if_pos c13] at H
       have c13b0 : decide (x13_1 < (t190103.length : Int)) = true := decide_eq_true c13
       clear c13
       by_cases c14 : (rd t190103 x13_1) < 0
       ·rw [if_pos c14] at H
        have c14b0 : decide ((rd t190103 x13_1) < 0) = true := decide_eq_true c14
        clear c14
        replace H := Option.bind_eq_some_iff.mp H
        obtain ⟨t190107, A150, H⟩ := H
        replace H : (if t190107 = true then (if x4_1.length < 17592186044416 then (spec_HopelessSquares.l0 k1 (x4_1 ++ [x13_1]) t190103 (t190103.length : Int) (wrap64 (x13_1 + 1)) a0_0 a0_1 a0_2 l0_3) else (none)) else (spec_HopelessSquares.l0 k1 x4_1 t190103 (t190103.length : Int) (wrap64 (x13_1 + 1)) a0_0 a0_1 a0_2 l0_3)) = some (r1, r2) := H
        have A15 := Aside0.mk A150
        clear A150
        by_cases c16 : t190107 = true
        ·subst c16
         have H1 : (if x4_1.length < 17592186044416 then (spec_HopelessSquares.l0 k1 (x4_1 ++ [x13_1]) t190103 (t190103.length : Int) (wrap64 (x13_1 + 1)) a0_0 a0_1 a0_2 l0_3) else (none)) = some (r1, r2) := by rw [if_pos rfl] at H; exact H
         clear H
         have H := H1
         clear H1
         by_cases c17 : x4_1.length < 17592186044416
         ·rw [if_pos c17] at H
          have LMc17 := Aside0.mk c17
          clear c17
          obtain ⟨y190108, hy190108⟩ : ∃ y_ : List Int, y_ = (x4_1 ++ [x13_1]) := ⟨_, rfl⟩
          replace H : (spec_HopelessSquares.l0 k1 y190108 t190103 (t190103.length : Int) (wrap64 (x13_1 + 1)) a0_0 a0_1 a0_2 l0_3) = some (r1, r2) := by first | (rw [hy190108]; with_reducible exact H) | (have H2_ := (Option.bind_some _ _).symm.trans H; rw [hy190108]; with_reducible exact H2_) | (have H2_ := (Option.bind_some _ _).symm.trans H; with_reducible exact H2_) | with_reducible exact H | (rw [hy190108]; exact H) | exact H
          have Ny190108 := Aside0.mk hy190108
          clear hy190108
          have H' := Aside0.mk H
          clear H
          have p190106 : 0 ≤ (x13_1 : Int) := of_decide_eq_true (by first | (with_reducible assumption) | assumption)
          have q190106 : x13_1 < (t190103.length : Int) := of_decide_eq_true (by first | (with_reducible assumption) | assumption)
          obtain ⟨ad190106, e190106, hx190106_0⟩ := Kd.at_int (Kd.R_reads' HO_11.out).2.2 x13_1 p190106 q190106
          cases e190106
          replace p190106 := eq_true p190106
          replace q190106 := eq_true q190106
          have hcz18_0 : wr.cell? ⟨gb190101, 0, none⟩ = some (.int .i64 a0_0) := (blk_cell BK190101.out 0).trans rfl
          have hcz18_1 : wr.cell? ⟨gb190101, 1, none⟩ = some (.int .i64 a0_1) := (blk_cell BK190101.out 1).trans rfl
          have hcz18_2 : wr.cell? ⟨gb190101, 2, none⟩ = some (.int .i64 a0_2) := (blk_cell BK190101.out 2).trans rfl
          have hcz18_3 : wr.cell? ⟨gb190101, 3, none⟩ = some (.slice A0_3 l0_3.length c0_3) := (blk_cell BK190101.out 3).trans rfl
          have hfz18_0 := blk_frozen BK190101.out 0
          have hfz18_1 := blk_frozen BK190101.out 1
          have hfz18_2 := blk_frozen BK190101.out 2
          have hfz18_3 := blk_frozen BK190101.out 3
          go_wp2_with (first | (go_at_call 143; (with_reducible refine (spec_sqSquare.calls k1 a0_0 a0_1 a0_2 _ _ l0_3 x13_1 true _ ?side1 ?side2 A15.out).mono ?_); (case side1 => repeat (first | exact (Kd.C_below HR0_3.out HB.out) | (with_reducible refine Kd.C_alloc ?_ _) | (with_reducible refine Kd.C_drewN ?_ _) | (with_reducible refine Kd.C_drew ?_))); (case side2 => exact HC0_3.out); rintro e w19 ⟨rfl, hb⟩; have n0_ := Aside0.mk (Kd.R_below (by (with_reducible repeat (first | apply Kd.R_alloc | apply Kd.R_drewN | apply Kd.R_drew)); exact HO_4.out) hb); have n1_ := Aside0.mk (Kd.R_below (by (with_reducible repeat (first | apply Kd.R_alloc | apply Kd.R_drewN | apply Kd.R_drew)); exact HO_11.out) hb); have n2_ := Aside0.mk (blk_below (g := gb190101) (o := .cells #[.int .i64 a0_0, .int .i64 a0_1, .int .i64 a0_2, .slice A0_3 l0_3.length c0_3] 32 (0, 0)) (by (with_reducible repeat (first | refine blk_drewN ?_ _ | refine blk_drew ?_ | refine blk_alloc ?_ _)); exact BK190101.out) hb); have n3_ := Aside0.mk (below_step (by repeat (first | (with_reducible first | exact HB.out | apply below_alloc | apply pw_below_drewN | apply below_drew1 | refine below_set ?_ GE190101.out) | exact HB.out)) hb); clear HO_4; clear HO_11; clear BK190101; clear HB; have HO_4 := n0_; have HO_11 := n1_; have BK190101 := n2_; have HB := n3_; clear n0_ n1_ n2_ n3_; (try clear hb); (try clear hb2); (try clear hk); (try clear hi)) | ((with_reducible refine gate_builtin (b := .append) (xs := #[.tmp 25, .tmp 27]) rfl ?_); at_builtin; refine Kd.R_append (Kd.int .i64) (w0 := w) w.heap.size rfl (.tmp 25) (.tmp 27) 58 3 (.int .i64 0) 8 rfl Try.underlying58 info3 rfl (by decide) (by omega) u4 x4_1 x13_1 [.int .i64 x13_1] (fun k_ => some k_ ≠ (.slice (some ad190106) t190103.length co10 : Value).ownBlock) (fun _ => False) rfl rfl ?aP (fun _ hk => hk.elim) ?aF ?aO ?aB ?aS ?aL ?_; (case aP => exact rfl); (case aB => exact (by repeat (first | (with_reducible first | exact HB.out | apply below_alloc | apply pw_below_drewN | apply below_drew1 | refine below_set ?_ GE190101.out) | exact HB.out))); (case aF => exact (fun k_ hk => Kd.fresh' (Kd.R_lt (by (with_reducible repeat (first | apply Kd.R_alloc | apply Kd.R_drewN | apply Kd.R_drew)); exact HO_11.out)) k_ hk)); (case aO => exact (by (with_reducible repeat (first | apply Kd.R_alloc | apply Kd.R_drewN | apply Kd.R_drew)); exact HO_4.out)); (case aS => exact (below_size (by repeat (first | (with_reducible first | exact HB.out | apply below_alloc | apply pw_below_drewN | apply below_drew1 | refine below_set ?_ GE190101.out) | exact HB.out)))); (case aL => have := LMc17.out; omega); intro v190109 w20 ho hb hg hat; rw [← Ny190108.out] at ho; have n0_ := Aside0.mk (Kd.R_after (ok := (fun _ => True)) (by (with_reducible repeat (first | apply Kd.R_alloc | apply Kd.R_drewN | apply Kd.R_drew)); exact Kd.R_mono HO_11.out (fun _ hk => ⟨trivial, hk⟩)) hg hat); have n1_ := Aside0.mk (blk_grown (g := gb190101) (o := .cells #[.int .i64 a0_0, .int .i64 a0_1, .int .i64 a0_2, .slice A0_3 l0_3.length c0_3] 32 (0, 0)) (by (with_reducible repeat (first | refine blk_drewN ?_ _ | refine blk_drew ?_ | refine blk_alloc ?_ _)); exact BK190101.out) hg (Kd.R_ne HO_4.out BK190101.out (by decide))); have n2_ := Aside0.mk (hb); have n3_ := Aside0.mk (ho); clear HO_11; clear BK190101; clear HB; clear HO_4; have HO_11 := n0_; have BK190101 := n1_; have HB := n2_; have HO190110 := n3_; clear n0_ n1_ n2_ n3_; clear ho hb hg hat))
          go_roundg k1
          case measure => have := HK1.out; omega
          case rel => exact ⟨(y190108), (wrap64 (x13_1 + 1)), (by first | rfl | (simp; done) | (simp [*]; done)), H', ⟨by have := HK1.out; omega⟩, ⟨by (with_reducible repeat (first | apply Kd.R_alloc | apply Kd.R_drewN | apply Kd.R_drew)); exact HO190110.out⟩, ⟨by (with_reducible repeat (first | apply Kd.R_alloc | apply Kd.R_drewN | apply Kd.R_drew)); exact Kd.R_mono HO_11.out (fun _ hk => hk.2)⟩, ⟨by (with_reducible repeat (first | refine blk_drewN ?_ _ | refine blk_drew ?_ | refine blk_alloc ?_ _)); exact BK190101.out⟩, ⟨by repeat (first | (with_reducible first | exact HB.out | apply below_alloc | apply pw_below_drewN | apply below_drew1 | refine below_set ?_ GE190101.out) | exact HB.out)⟩⟩
         ·rw [if_neg c17] at H
          exact absurd H (by simp)
        ·replace c16 := Bool.eq_false_iff.mpr c16
         subst c16
         have H1 : (spec_HopelessSquares.l0 k1 x4_1 t190103 (t190103.length : Int) (wrap64 (x13_1 + 1)) a0_0 a0_1 a0_2 l0_3) = some (r1, r2) := by rw [if_neg (show ¬ (false = true) by decide)] at H; exact H
         clear H
         have H := H1
         clear H1
         have H' := Aside0.mk H
         clear H
         have p190106 : 0 ≤ (x13_1 : Int) := of_decide_eq_true (by first | (with_reducible assumption) | assumption)
         have q190106 : x13_1 < (t190103.length : Int) := of_decide_eq_true (by first | (with_reducible assumption) | assumption)
         obtain ⟨ad190106, e190106, hx190106_0⟩ := Kd.at_int (Kd.R_reads' HO_11.out).2.2 x13_1 p190106 q190106
         cases e190106
         replace p190106 := eq_true p190106
         replace q190106 := eq_true q190106
         have hcz21_0 : wr.cell? ⟨gb190101, 0, none⟩ = some (.int .i64 a0_0) := (blk_cell BK190101.out 0).trans rfl
         have hcz21_1 : wr.cell? ⟨gb190101, 1, none⟩ = some (.int .i64 a0_1) := (blk_cell BK190101.out 1).trans rfl
         have hcz21_2 : wr.cell? ⟨gb190101, 2, none⟩ = some (.int .i64 a0_2) := (blk_cell BK190101.out 2).trans rfl
         have hcz21_3 : wr.cell? ⟨gb190101, 3, none⟩ = some (.slice A0_3 l0_3.length c0_3) := (blk_cell BK190101.out 3).trans rfl
         have hfz21_0 := blk_frozen BK190101.out 0
         have hfz21_1 := blk_frozen BK190101.out 1
         have hfz21_2 := blk_frozen BK190101.out 2
         have hfz21_3 := blk_frozen BK190101.out 3
         go_wp2_with (first | (go_at_call 143; (with_reducible refine (spec_sqSquare.calls k1 a0_0 a0_1 a0_2 _ _ l0_3 x13_1 false _ ?side1 ?side2 A15.out).mono ?_); (case side1 => repeat (first | exact (Kd.C_below HR0_3.out HB.out) | (with_reducible refine Kd.C_alloc ?_ _) | (with_reducible refine Kd.C_drewN ?_ _) | (with_reducible refine Kd.C_drew ?_))); (case side2 => exact HC0_3.out); rintro e w22 ⟨rfl, hb⟩; have n0_ := Aside0.mk (Kd.R_below (by (with_reducible repeat (first | apply Kd.R_alloc | apply Kd.R_drewN | apply Kd.R_drew)); exact HO_4.out) hb); have n1_ := Aside0.mk (Kd.R_below (by (with_reducible repeat (first | apply Kd.R_alloc | apply Kd.R_drewN | apply Kd.R_drew)); exact HO_11.out) hb); have n2_ := Aside0.mk (blk_below (g := gb190101) (o := .cells #[.int .i64 a0_0, .int .i64 a0_1, .int .i64 a0_2, .slice A0_3 l0_3.length c0_3] 32 (0, 0)) (by (with_reducible repeat (first | refine blk_drewN ?_ _ | refine blk_drew ?_ | refine blk_alloc ?_ _)); exact BK190101.out) hb); have n3_ := Aside0.mk (below_step (by repeat (first | (with_reducible first | exact HB.out | apply below_alloc | apply pw_below_drewN | apply below_drew1 | refine below_set ?_ GE190101.out) | exact HB.out)) hb); clear HO_4; clear HO_11; clear BK190101; clear HB; have HO_4 := n0_; have HO_11 := n1_; have BK190101 := n2_; have HB := n3_; clear n0_ n1_ n2_ n3_; (try clear hb); (try clear hb2); (try clear hk); (try clear hi)))
         go_roundg k1
         case measure => have := HK1.out; omega
         case rel => exact ⟨(x4_1), (wrap64 (x13_1 + 1)), (by first | rfl | (simp; done) | (simp [*]; done)), H', ⟨by have := HK1.out; omega⟩, ⟨by (with_reducible repeat (first | apply Kd.R_alloc | apply Kd.R_drewN | apply Kd.R_drew)); exact HO_4.out⟩, ⟨by (with_reducible repeat (first | apply Kd.R_alloc | apply Kd.R_drewN | apply Kd.R_drew)); exact HO_11.out⟩, ⟨by (with_reducible repeat (first | refine blk_drewN ?_ _ | refine blk_drew ?_ | refine blk_alloc ?_ _)); exact BK190101.out⟩, ⟨by repeat (first | (with_reducible first | exact HB.out | apply below_alloc | apply pw_below_drewN | apply below_drew1 | refine below_set ?_ GE190101.out) | exact HB.out)⟩⟩
       ·rw [if_neg c14] at H
        have c14b0 : decide ((rd t190103 x13_1) < 0) = false := decide_eq_false c14
        clear c14
        have H' := Aside0.mk H
        clear H
        have p190106 : 0 ≤ (x13_1 : Int) := of_decide_eq_true (by first | (with_reducible assumption) | assumption)
        have q190106 : x13_1 < (t190103.length : Int) := of_decide_eq_true (by first | (with_reducible assumption) | assumption)
        obtain ⟨ad190106, e190106, hx190106_0⟩ := Kd.at_int (Kd.R_reads' HO_11.out).2.2 x13_1 p190106 q190106
        cases e190106
        replace p190106 := eq_true p190106
        replace q190106 := eq_true q190106
        go_wp2
        go_roundg k1
        case measure => have := HK1.out; omega
        case rel => exact ⟨(x4_1), (wrap64 (x13_1 + 1)), (by first | rfl | (simp; done) | (simp [*]; done)), H', ⟨by have := HK1.out; omega⟩, ⟨by (with_reducible repeat (first | apply Kd.R_alloc | apply Kd.R_drewN | apply Kd.R_drew)); exact HO_4.out⟩, ⟨by (with_reducible repeat (first | apply Kd.R_alloc | apply Kd.R_drewN | apply Kd.R_drew)); exact HO_11.out⟩, ⟨by (with_reducible repeat (first | refine blk_drewN ?_ _ | refine blk_drew ?_ | refine blk_alloc ?_ _)); exact BK190101.out⟩, ⟨by repeat (first | (with_reducible first | exact HB.out | apply below_alloc | apply pw_below_drewN | apply below_drew1 | refine below_set ?_ GE190101.out) | exact HB.out)⟩⟩
      ·rw [if_neg c13] at H
       exact absurd H (by simp)
     ·rw [if_neg c12] at H
      exact absurd H (by simp)
    ·rw [if_neg c11] at H
     have c11b0 : decide (x13_1 < (t190103.length : Int)) = false := decide_eq_false c11
     clear c11
     simp only [Option.some.injEq, Prod.mk.injEq] at H
     obtain ⟨rfl, rfl⟩ := H
     go_wp2
     go_ret2
     exact ⟨_, by first | rfl | (simp [errW_none, errW_some] <;> rfl) | (simp [*, errW_none, errW_some] <;> rfl), by (with_reducible repeat (first | apply Kd.R_alloc | apply Kd.R_drewN | apply Kd.R_drew)); exact Kd.R_mono HO_4.out (fun _ hk => trivial), by repeat (first | (with_reducible first | exact HB.out | apply below_alloc | apply pw_below_drewN | apply below_drew1 | refine below_set ?_ GE190101.out) | exact HB.out)⟩
 ·replace c3 := Bool.eq_false_iff.mpr c3
  subst c3
  have H1 : (some (([] : List Int), false)) = some (r1, r2) := by rw [if_neg (show ¬ (false = true) by decide)] at H; exact H
  clear H
  have H := H1
  clear H1
  simp only [Option.some.injEq, Prod.mk.injEq] at H
  obtain ⟨rfl, rfl⟩ := H
  go_enter Try.func95, Try.ntmps95
  go_wp2_with (first | ((with_reducible refine gate_dst (N := 1) rfl ?_); refine box_event ?hg (N := 1) ?hd (cs := #[.int .i64 a0_0, .int .i64 a0_1, .int .i64 a0_2, .slice A0_3 l0_3.length c0_3]) (t := 32) ?hr ?_; (case hd => rfl); (case hg => rfl); (case hr => first | (go_simp; done) | (go_simp; rfl)); intro gb190101 hg w23 hbox hb; have n0_ := Aside0.mk (below_step (by repeat (first | (with_reducible first | exact HB.out | apply below_alloc | apply pw_below_drewN | apply below_drew1) | exact HB.out)) hb); have n1_ := Aside0.mk (hbox); have n2_ := Aside0.mk ((by rw [hg]; exact (below_size (by repeat (first | (with_reducible first | exact HB.out | apply below_alloc | apply pw_below_drewN | apply below_drew1) | exact HB.out))) : w.heap.size ≤ gb190101)); have n3_ := Aside0.mk ((by rw [hg]; exact (below_size (by repeat (first | (with_reducible first | exact HB.out | apply below_alloc | apply pw_below_drewN | apply below_drew1) | exact HB.out))) : w.heap.size ≤ gb190101)); clear HB; have HB := n0_; have BK190101 := n1_; have GW190101 := n2_; have GE190101 := n3_; clear n0_ n1_ n2_ n3_; clear hb hbox hg; have hcz24_0 : w23.cell? ⟨gb190101, 0, none⟩ = some (.int .i64 a0_0) := (blk_cell BK190101.out 0).trans rfl; have hcz24_1 : w23.cell? ⟨gb190101, 1, none⟩ = some (.int .i64 a0_1) := (blk_cell BK190101.out 1).trans rfl; have hcz24_2 : w23.cell? ⟨gb190101, 2, none⟩ = some (.int .i64 a0_2) := (blk_cell BK190101.out 2).trans rfl; have hcz24_3 : w23.cell? ⟨gb190101, 3, none⟩ = some (.slice A0_3 l0_3.length c0_3) := (blk_cell BK190101.out 3).trans rfl; have hfz24_0 := blk_frozen BK190101.out 0; have hfz24_1 := blk_frozen BK190101.out 1; have hfz24_2 := blk_frozen BK190101.out 2; have hfz24_3 := blk_frozen BK190101.out 3) | ((with_reducible refine gate_callee (f := 125) rfl ?_); refine goesL_ (some 8) rfl rfl Try.func125 (by kernel_rfl) rfl #[.agg #[.int .i64 a0_0, .int .i64 a0_1, .int .i64 a0_2, .slice A0_3 l0_3.length c0_3]] rfl (by (try simp only [List.map_toArray, List.map_cons, List.map_nil]); first | done | rfl | (simp only [List.length_drop, List.length_take]; rfl)) ?_; (with_reducible refine (spec_sqGood.calls k a0_0 a0_1 a0_2 _ _ l0_3 false _ ?side1 ?side2 A2.out).mono ?_); (case side1 => repeat (first | exact (Kd.C_below HR0_3.out HB.out) | (with_reducible refine Kd.C_alloc ?_ _) | (with_reducible refine Kd.C_drewN ?_ _) | (with_reducible refine Kd.C_drew ?_))); (case side2 => exact HC0_3.out); rintro e w25 ⟨rfl, hb⟩; refine ⟨_, rfl, ?_⟩; have n0_ := Aside0.mk (blk_below (g := gb190101) (o := .cells #[.int .i64 a0_0, .int .i64 a0_1, .int .i64 a0_2, .slice A0_3 l0_3.length c0_3] 32 (0, 0)) (by (with_reducible repeat (first | refine blk_drewN ?_ _ | refine blk_drew ?_ | refine blk_alloc ?_ _)); exact BK190101.out) hb); have n1_ := Aside0.mk (below_step (by repeat (first | (with_reducible first | exact HB.out | apply below_alloc | apply pw_below_drewN | apply below_drew1 | refine below_set ?_ GE190101.out) | exact HB.out)) hb); clear BK190101; clear HB; have BK190101 := n0_; have HB := n1_; clear n0_ n1_; (try clear hb); (try clear hb2); (try clear hk); (try clear hi)))
  go_ret2
  exact ⟨_, by first | rfl | (simp [errW_none, errW_some] <;> rfl) | (simp [*, errW_none, errW_some] <;> rfl), by first | exact Kd.R_nil _ _ _ _ _ | exact Kd.N_nil _ _ _ _ _ | exact Kd.V_nil _ _ _ _ _ | exact Kd.Q_nil _ _ _ _ _ | exact Kd.S_nil _ _ _ _ _, by repeat (first | (with_reducible first | exact HB.out | apply below_alloc | apply pw_below_drewN | apply below_drew1 | refine below_set ?_ GE190101.out) | exact HB.out)⟩

end Go.Proofs.Ytkobjjadojpjfaa.Pr
