-- A text of the machine side, written by wip/gen.py of this repo out of the translation. Not trusted: Lean checks it.
import Derived.Test.YtkobjjadojpjfaaF0
namespace Go.Proofs.Ytkobjjadojpjfaa.Pr
open Go.RowKit Go.Proofs.YtkobjjadojpjfaaW.PrintWords Go.Proofs.YtkobjjadojpjfaaW.PrintLast Go.Proofs.YtkobjjadojpjfaaW.PrintMore
attribute [local go_sem] max2_int min2_int max_two min_two max_three min_three max_four min_four   -- for this text's walks alone
set_option linter.unusedVariables false
set_option linter.unusedSimpArgs false

section
/-! ### spec_l1In: function 136 -/
def spec_l1In.f (a0 : Int) (a1 : Int) (a2 : Int) : Option (Bool) := if a0 ≥ a1 then (some (decide (a0 ≤ a2))) else (some false)
set_option maxHeartbeats 8000000 in
set_option maxRecDepth 100000 in
theorem spec_l1In.calls (a0 : Int) (a1 : Int) (a2 : Int) (r : Bool) (w : World) (h : spec_l1In.f a0 a1 a2 = some r) :
  Calls Try.prog 136 #[.int .i64 a0, .int .i64 a1, .int .i64 a2] w fun e w' => e = .returned (.bool r) ∧ Drawn0 w w' := by
 have H : (if a0 ≥ a1 then (some (decide (a0 ≤ a2))) else (some false)) = some r := h
 clear h
 by_cases c4 : a0 ≥ a1
 ·rw [if_pos c4] at H
  have c4b0 : decide (a1 ≤ a0) = true := decide_eq_true c4
  clear c4
  obtain rfl := Option.some.inj H
  go_enter Try.func136, Try.ntmps136
  go_wp2
  go_ret
  exact ⟨by first | rfl | (simp; done) | (simp [*]; done), by repeat (first | exact Drawn0.refl _ | apply Drawn0.step)⟩
 ·rw [if_neg c4] at H
  have c4b0 : decide (a1 ≤ a0) = false := decide_eq_false c4
  clear c4
  obtain rfl := Option.some.inj H
  go_enter Try.func136, Try.ntmps136
  go_wp2
  go_ret
  exact ⟨by first | rfl | (simp; done) | (simp [*]; done), by repeat (first | exact Drawn0.refl _ | apply Drawn0.step)⟩

end

section
/-! ### spec_sqJump: function 191 -/
def spec_sqJump.l0 : Nat → Int → List (S27) → Int → Int → Option (Int)
 | 0, _, _, _, _ => none
 | k + 1, x1, x8, x9, x10 => if x10 < x9 then (if 0 ≤ x10 then (if x10 < (x8.length : Int) then (if ((rd_T27 x8 x10).f0) = x1 then (some ((rd_T27 x8 x10).f1)) else (spec_sqJump.l0 k x1 x8 x9 (wrap64 (x10 + 1)))) else (none)) else (none)) else (some x1)
def spec_sqJump.f (k : Nat) (a0_0 : Int) (a0_1 : Int) (a0_2 : Int) (l0_3 : List (S27)) (a1 : Int) : Option (Int) := spec_sqJump.l0 k a1 l0_3 (l0_3.length : Int) 0
set_option maxHeartbeats 8000000 in
set_option maxRecDepth 100000 in
theorem spec_sqJump.calls (k : Nat) (a0_0 : Int) (a0_1 : Int) (a0_2 : Int) (A0_3 : Option Addr) (c0_3 : Nat) (l0_3 : List (S27)) (a1 : Int) (r : Int) (w : World) (hr0_3 : Kd.C k27 w A0_3 l0_3.length l0_3) (hc0_3 : l0_3.length ≤ c0_3) (h : spec_sqJump.f k a0_0 a0_1 a0_2 l0_3 a1 = some r) :
  Calls Try.prog 191 #[.agg #[.int .i64 a0_0, .int .i64 a0_1, .int .i64 a0_2, .slice A0_3 l0_3.length c0_3], .int .i64 a1] w fun e w' => e = .returned (.int .i64 r) ∧ Below w.heap.size w w' := by
 have hu32 := Try.underlying32
 have hu27 := Try.underlying27
 have HR0_3 := Aside0.mk hr0_3
 have HC0_3 := Aside0.mk hc0_3
 clear hr0_3 hc0_3
 have HB := Aside0.mk (Below.refl w.heap.size w)
 have H : (spec_sqJump.l0 k a1 l0_3 (l0_3.length : Int) 0) = some r := h
 clear h
 have H' := Aside0.mk H
 clear H
 go_enter Try.func191, Try.ntmps191
 go_wp2_with (first | ((with_reducible refine gate_dst (N := 2) rfl ?_); refine box_event ?hg (N := 2) ?hd (cs := #[.int .i64 a0_0, .int .i64 a0_1, .int .i64 a0_2, .slice A0_3 l0_3.length c0_3]) (t := 32) ?hr ?_; (case hd => rfl); (case hg => rfl); (case hr => first | (go_simp; done) | (go_simp; rfl)); intro gb382101 hg w3 hbox hb; have n0_ := Aside0.mk (below_step (by repeat (first | (with_reducible first | exact HB.out | apply below_alloc | apply pw_below_drewN | apply below_drew1) | exact HB.out)) hb); have n1_ := Aside0.mk (hbox); have n2_ := Aside0.mk ((by rw [hg]; exact (below_size (by repeat (first | (with_reducible first | exact HB.out | apply below_alloc | apply pw_below_drewN | apply below_drew1) | exact HB.out))) : w.heap.size ≤ gb382101)); have n3_ := Aside0.mk ((by rw [hg]; exact (below_size (by repeat (first | (with_reducible first | exact HB.out | apply below_alloc | apply pw_below_drewN | apply below_drew1) | exact HB.out))) : w.heap.size ≤ gb382101)); clear HB; have HB := n0_; have BK382101 := n1_; have GW382101 := n2_; have GE382101 := n3_; clear n0_ n1_ n2_ n3_; clear hb hbox hg; have hcz4_0 : w3.cell? ⟨gb382101, 0, none⟩ = some (.int .i64 a0_0) := (blk_cell BK382101.out 0).trans rfl; have hcz4_1 : w3.cell? ⟨gb382101, 1, none⟩ = some (.int .i64 a0_1) := (blk_cell BK382101.out 1).trans rfl; have hcz4_2 : w3.cell? ⟨gb382101, 2, none⟩ = some (.int .i64 a0_2) := (blk_cell BK382101.out 2).trans rfl; have hcz4_3 : w3.cell? ⟨gb382101, 3, none⟩ = some (.slice A0_3 l0_3.length c0_3) := (blk_cell BK382101.out 3).trans rfl; have hfz4_0 := blk_frozen BK382101.out 0; have hfz4_1 := blk_frozen BK382101.out 1; have hfz4_2 := blk_frozen BK382101.out 2; have hfz4_3 := blk_frozen BK382101.out 3))
 go_loopg [10] k (fun kq v10 w' => ∃ (x10_1 : Int), v10 = .int .i64 x10_1 ∧ Aside0 (spec_sqJump.l0 kq a1 l0_3 (l0_3.length : Int) x10_1 = some r) ∧ Aside0 (kq ≤ k) ∧ Aside0 (w'.heap[gb382101]? = some (.cells #[.int .i64 a0_0, .int .i64 a0_1, .int .i64 a0_2, (.slice A0_3 l0_3.length c0_3)] 32 (0, 0))) ∧ Aside0 (Below w.heap.size w w'))
 case atStart => exact ⟨(0), (by first | rfl | (simp; done) | (simp [*]; done)), H', ⟨Nat.le_refl _⟩, ⟨by (with_reducible repeat (first | refine blk_drewN ?_ _ | refine blk_drew ?_ | refine blk_alloc ?_ _)); exact BK382101.out⟩, ⟨by repeat (first | (with_reducible first | exact HB.out | apply below_alloc | apply pw_below_drewN | apply below_drew1 | refine below_set ?_ GE382101.out) | exact HB.out)⟩⟩
 case round =>
  clear H'
  try clear c1
  try clear p2
  try clear hcz4_0
  try clear hcz4_1
  try clear hcz4_2
  try clear hcz4_3
  try clear hfz4_0
  try clear hfz4_1
  try clear hfz4_2
  try clear hfz4_3
  obtain ⟨x10_1, rfl, HA, HK1, BK382101, HB⟩ := hrel
  cases gk with
  | zero => exact absurd HA.out (by simp [spec_sqJump.l0])
  | succ k1 =>
   have H := HA.out
   clear HA
   simp only [spec_sqJump.l0] at H
   by_cases c5 : x10_1 < (l0_3.length : Int)
   ·rw [if_pos c5] at H
    have c5b0 : decide (x10_1 < (l0_3.length : Int)) = true := decide_eq_true c5
    clear c5
    by_cases c6 : 0 ≤ x10_1
    ·rw [if_pos c6] at H
     have c6b0 : decide (0 ≤ x10_1) = true := decide_eq_true c6
     clear c6
     by_cases c7 : x10_1 < (l0_3.length : Int)
     ·rw [if_pos c7] at H
      have c7b0 : decide (x10_1 < (l0_3.length : Int)) = true := decide_eq_true c7
      clear c7
      by_cases c8 : ((rd_T27 l0_3 x10_1).f0) = a1
      ·rw [if_pos c8] at H
       have c8b0 : (((rd_T27 l0_3 x10_1).f0) == a1) = true := beq_iff_eq.mpr c8
       have c8b1 : (((rd_T27 l0_3 x10_1).f0) != a1) = false := bne_eq_false_iff_eq.mpr c8
       clear c8
       obtain rfl := Option.some.inj H
       have p382102 : 0 ≤ (x10_1 : Int) := of_decide_eq_true (by first | (with_reducible assumption) | assumption)
       have q382102 : x10_1 < (l0_3.length : Int) := of_decide_eq_true (by first | (with_reducible assumption) | assumption)
       obtain ⟨ad382102, e382102, hx382102_0, hx382102_1⟩ := at_T27 HR0_3.out x10_1 p382102 q382102
       cases e382102
       first | (replace hx382102_0 := (HB.out.cell (World.block_lt_of_cell? w _ hx382102_0)).trans hx382102_0) | skip
       first | (replace hx382102_1 := (HB.out.cell (World.block_lt_of_cell? w _ hx382102_1)).trans hx382102_1) | skip
       replace p382102 := eq_true p382102
       replace q382102 := eq_true q382102
       go_wp2_with (first | ((with_reducible refine gate_dst (N := 6) rfl ?_); refine box_event ?hg (N := 6) ?hd (cs := #[.int .i64 0, .int .i64 0]) (t := 27) ?hr ?_; (case hd => rfl); (case hg => rfl); (case hr => first | (go_simp; done) | (go_simp; rfl)); intro gb382103 hg w9 hbox hb; have n0_ := Aside0.mk (blk_below (g := gb382101) (o := .cells #[.int .i64 a0_0, .int .i64 a0_1, .int .i64 a0_2, .slice (some ad382102) l0_3.length c0_3] 32 (0, 0)) (by (with_reducible repeat (first | refine blk_drewN ?_ _ | refine blk_drew ?_ | refine blk_alloc ?_ _)); exact BK382101.out) hb); have n1_ := Aside0.mk (below_step (by repeat (first | (with_reducible first | exact HB.out | apply below_alloc | apply pw_below_drewN | apply below_drew1 | refine below_set ?_ GE382101.out) | exact HB.out)) hb); have n2_ := Aside0.mk (hbox); have n3_ := Aside0.mk ((by rw [hg]; exact (below_size (by repeat (first | (with_reducible first | exact HB.out | apply below_alloc | apply pw_below_drewN | apply below_drew1 | refine below_set ?_ GE382101.out) | exact HB.out))) : w.heap.size ≤ gb382103)); have n4_ := Aside0.mk ((by rw [hg]; exact (below_size (by repeat (first | (with_reducible first | exact HB.out | apply below_alloc | apply pw_below_drewN | apply below_drew1 | refine below_set ?_ GE382101.out) | exact HB.out))) : w.heap.size ≤ gb382103)); have n5_ := Aside0.mk ((by rw [hg]; exact Nat.ne_of_lt (blk_lt (g := gb382101) (o := .cells #[.int .i64 a0_0, .int .i64 a0_1, .int .i64 a0_2, .slice (some ad382102) l0_3.length c0_3] 32 (0, 0)) (by (with_reducible repeat (first | refine blk_drewN ?_ _ | refine blk_drew ?_ | refine blk_alloc ?_ _)); exact BK382101.out)) : gb382101 ≠ gb382103)); have n6_ := Aside0.mk ((by rw [hg]; exact Nat.ne_of_gt (blk_lt (g := gb382101) (o := .cells #[.int .i64 a0_0, .int .i64 a0_1, .int .i64 a0_2, .slice (some ad382102) l0_3.length c0_3] 32 (0, 0)) (by (with_reducible repeat (first | refine blk_drewN ?_ _ | refine blk_drew ?_ | refine blk_alloc ?_ _)); exact BK382101.out)) : gb382103 ≠ gb382101)); clear BK382101; clear HB; have BK382101 := n0_; have HB := n1_; have BK382103 := n2_; have GW382103 := n3_; have GE382103 := n4_; have NB382101_382103 := n5_; have NB382103_382101 := n6_; clear n0_ n1_ n2_ n3_ n4_ n5_ n6_; clear hb hbox hg; have hnb10 := NB382103_382101.out; have hnc10 := NB382101_382103.out; have hcz11_0 : w9.cell? ⟨gb382103, 0, none⟩ = some (.int .i64 0) := (blk_cell BK382103.out 0).trans rfl; have hcz11_1 : w9.cell? ⟨gb382103, 1, none⟩ = some (.int .i64 0) := (blk_cell BK382103.out 1).trans rfl; have hfz11_0 := blk_frozen BK382103.out 0; have hfz11_1 := blk_frozen BK382103.out 1))
       go_ret
       exact ⟨by first | rfl | (simp [errW_none, errW_some] <;> rfl) | (simp [*, errW_none, errW_some] <;> rfl), by repeat (first | (with_reducible first | exact HB.out | apply below_alloc | apply pw_below_drewN | apply below_drew1 | refine below_set ?_ GE382101.out | refine below_set ?_ GE382103.out) | exact HB.out)⟩
      ·rw [if_neg c8] at H
       have c8b0 : (((rd_T27 l0_3 x10_1).f0) == a1) = false := beq_eq_false_iff_ne.mpr c8
       have c8b1 : (((rd_T27 l0_3 x10_1).f0) != a1) = true := bne_iff_ne.mpr c8
       have H' := Aside0.mk H
       clear H
       have p382102 : 0 ≤ (x10_1 : Int) := of_decide_eq_true (by first | (with_reducible assumption) | assumption)
       have q382102 : x10_1 < (l0_3.length : Int) := of_decide_eq_true (by first | (with_reducible assumption) | assumption)
       obtain ⟨ad382102, e382102, hx382102_0, hx382102_1⟩ := at_T27 HR0_3.out x10_1 p382102 q382102
       cases e382102
       first | (replace hx382102_0 := (HB.out.cell (World.block_lt_of_cell? w _ hx382102_0)).trans hx382102_0) | skip
       first | (replace hx382102_1 := (HB.out.cell (World.block_lt_of_cell? w _ hx382102_1)).trans hx382102_1) | skip
       replace p382102 := eq_true p382102
       replace q382102 := eq_true q382102
       go_wp2_with (first | ((with_reducible refine gate_dst (N := 6) rfl ?_); refine box_event ?hg (N := 6) ?hd (cs := #[.int .i64 0, .int .i64 0]) (t := 27) ?hr ?_; (case hd => rfl); (case hg => rfl); (case hr => first | (go_simp; done) | (go_simp; rfl)); intro gb382103 hg w12 hbox hb; have n0_ := Aside0.mk (blk_below (g := gb382101) (o := .cells #[.int .i64 a0_0, .int .i64 a0_1, .int .i64 a0_2, .slice (some ad382102) l0_3.length c0_3] 32 (0, 0)) (by (with_reducible repeat (first | refine blk_drewN ?_ _ | refine blk_drew ?_ | refine blk_alloc ?_ _)); exact BK382101.out) hb); have n1_ := Aside0.mk (below_step (by repeat (first | (with_reducible first | exact HB.out | apply below_alloc | apply pw_below_drewN | apply below_drew1 | refine below_set ?_ GE382101.out) | exact HB.out)) hb); have n2_ := Aside0.mk (hbox); have n3_ := Aside0.mk ((by rw [hg]; exact (below_size (by repeat (first | (with_reducible first | exact HB.out | apply below_alloc | apply pw_below_drewN | apply below_drew1 | refine below_set ?_ GE382101.out) | exact HB.out))) : w.heap.size ≤ gb382103)); have n4_ := Aside0.mk ((by rw [hg]; exact (below_size (by repeat (first | (with_reducible first | exact HB.out | apply below_alloc | apply pw_below_drewN | apply below_drew1 | refine below_set ?_ GE382101.out) | exact HB.out))) : w.heap.size ≤ gb382103)); have n5_ := Aside0.mk ((by rw [hg]; exact Nat.ne_of_lt (blk_lt (g := gb382101) (o := .cells #[.int .i64 a0_0, .int .i64 a0_1, .int .i64 a0_2, .slice (some ad382102) l0_3.length c0_3] 32 (0, 0)) (by (with_reducible repeat (first | refine blk_drewN ?_ _ | refine blk_drew ?_ | refine blk_alloc ?_ _)); exact BK382101.out)) : gb382101 ≠ gb382103)); have n6_ := Aside0.mk ((by rw [hg]; exact Nat.ne_of_gt (blk_lt (g := gb382101) (o := .cells #[.int .i64 a0_0, .int .i64 a0_1, .int .i64 a0_2, .slice (some ad382102) l0_3.length c0_3] 32 (0, 0)) (by (with_reducible repeat (first | refine blk_drewN ?_ _ | refine blk_drew ?_ | refine blk_alloc ?_ _)); exact BK382101.out)) : gb382103 ≠ gb382101)); clear BK382101; clear HB; have BK382101 := n0_; have HB := n1_; have BK382103 := n2_; have GW382103 := n3_; have GE382103 := n4_; have NB382101_382103 := n5_; have NB382103_382101 := n6_; clear n0_ n1_ n2_ n3_ n4_ n5_ n6_; clear hb hbox hg; have hnb13 := NB382103_382101.out; have hnc13 := NB382101_382103.out; have hcz14_0 : w12.cell? ⟨gb382103, 0, none⟩ = some (.int .i64 0) := (blk_cell BK382103.out 0).trans rfl; have hcz14_1 : w12.cell? ⟨gb382103, 1, none⟩ = some (.int .i64 0) := (blk_cell BK382103.out 1).trans rfl; have hfz14_0 := blk_frozen BK382103.out 0; have hfz14_1 := blk_frozen BK382103.out 1))
       go_roundg k1
       case measure => have := HK1.out; omega
       case rel => exact ⟨(wrap64 (x10_1 + 1)), (by first | rfl | (simp; done) | (simp [*]; done)), H', ⟨by have := HK1.out; omega⟩, ⟨by (with_reducible repeat (first | refine blk_drewN ?_ _ | refine blk_drew ?_ | refine blk_alloc ?_ _)); refine blk_far ?_ NB382101_382103.out _; (with_reducible repeat (first | refine blk_drewN ?_ _ | refine blk_drew ?_ | refine blk_alloc ?_ _)); refine blk_far ?_ NB382101_382103.out _; (with_reducible repeat (first | refine blk_drewN ?_ _ | refine blk_drew ?_ | refine blk_alloc ?_ _)); exact BK382101.out⟩, ⟨by repeat (first | (with_reducible first | exact HB.out | apply below_alloc | apply pw_below_drewN | apply below_drew1 | refine below_set ?_ GE382101.out | refine below_set ?_ GE382103.out) | exact HB.out)⟩⟩
     ·rw [if_neg c7] at H
      exact absurd H (by simp)
    ·rw [if_neg c6] at H
     exact absurd H (by simp)
   ·rw [if_neg c5] at H
    have c5b0 : decide (x10_1 < (l0_3.length : Int)) = false := decide_eq_false c5
    clear c5
    obtain rfl := Option.some.inj H
    go_wp2
    go_ret
    exact ⟨by first | rfl | (simp [errW_none, errW_some] <;> rfl) | (simp [*, errW_none, errW_some] <;> rfl), by repeat (first | (with_reducible first | exact HB.out | apply below_alloc | apply pw_below_drewN | apply below_drew1 | refine below_set ?_ GE382101.out) | exact HB.out)⟩

end

section
/-! ### spec_sqThrow: function 137 -/
def spec_sqThrow.f (k : Nat) (a0_0 : Int) (a0_1 : Int) (a0_2 : Int) (l0_3 : List (S27)) (a1 : Int) (a2 : Int) : Option (Int) := if a1 = a0_0 then (some a1) else (if (wrap64 (a1 + a2)) > a0_0 then (if a0_2 = 0 then (some a1) else (if a0_2 = 1 then (some a0_0) else (if (wrap64 ((wrap64 (2 * a0_0)) - (wrap64 (a1 + a2)))) < 0 then (some a1) else ((spec_sqJump.f k a0_0 a0_1 a0_2 l0_3 (wrap64 ((wrap64 (2 * a0_0)) - (wrap64 (a1 + a2))))).bind fun t274102 => (some t274102))))) else ((spec_sqJump.f k a0_0 a0_1 a0_2 l0_3 (wrap64 (a1 + a2))).bind fun t274103 => (some t274103)))
set_option maxHeartbeats 8000000 in
set_option maxRecDepth 100000 in
theorem spec_sqThrow.calls (k : Nat) (a0_0 : Int) (a0_1 : Int) (a0_2 : Int) (A0_3 : Option Addr) (c0_3 : Nat) (l0_3 : List (S27)) (a1 : Int) (a2 : Int) (r : Int) (w : World) (hr0_3 : Kd.C k27 w A0_3 l0_3.length l0_3) (hc0_3 : l0_3.length ≤ c0_3) (h : spec_sqThrow.f k a0_0 a0_1 a0_2 l0_3 a1 a2 = some r) :
  Calls Try.prog 137 #[.agg #[.int .i64 a0_0, .int .i64 a0_1, .int .i64 a0_2, .slice A0_3 l0_3.length c0_3], .int .i64 a1, .int .i64 a2] w fun e w' => e = .returned (.int .i64 r) ∧ Below w.heap.size w w' := by
 have hu32 := Try.underlying32
 have HR0_3 := Aside0.mk hr0_3
 have HC0_3 := Aside0.mk hc0_3
 clear hr0_3 hc0_3
 have HB := Aside0.mk (Below.refl w.heap.size w)
 have H : (if a1 = a0_0 then (some a1) else (if (wrap64 (a1 + a2)) > a0_0 then (if a0_2 = 0 then (some a1) else (if a0_2 = 1 then (some a0_0) else (if (wrap64 ((wrap64 (2 * a0_0)) - (wrap64 (a1 + a2)))) < 0 then (some a1) else ((spec_sqJump.f k a0_0 a0_1 a0_2 l0_3 (wrap64 ((wrap64 (2 * a0_0)) - (wrap64 (a1 + a2))))).bind fun t274102 => (some t274102))))) else ((spec_sqJump.f k a0_0 a0_1 a0_2 l0_3 (wrap64 (a1 + a2))).bind fun t274103 => (some t274103)))) = some r := h
 clear h
 by_cases c4 : a1 = a0_0
 ·rw [if_pos c4] at H
  have c4b0 : (a1 == a0_0) = true := beq_iff_eq.mpr c4
  have c4b1 : (a1 != a0_0) = false := bne_eq_false_iff_eq.mpr c4
  clear c4
  obtain rfl := Option.some.inj H
  go_enter Try.func137, Try.ntmps137
  go_wp2_with (first | ((with_reducible refine gate_dst (N := 3) rfl ?_); refine box_event ?hg (N := 3) ?hd (cs := #[.int .i64 a0_0, .int .i64 a0_1, .int .i64 a0_2, .slice A0_3 l0_3.length c0_3]) (t := 32) ?hr ?_; (case hd => rfl); (case hg => rfl); (case hr => first | (go_simp; done) | (go_simp; rfl)); intro gb274101 hg w5 hbox hb; have n0_ := Aside0.mk (below_step (by repeat (first | (with_reducible first | exact HB.out | apply below_alloc | apply pw_below_drewN | apply below_drew1) | exact HB.out)) hb); have n1_ := Aside0.mk (hbox); have n2_ := Aside0.mk ((by rw [hg]; exact (below_size (by repeat (first | (with_reducible first | exact HB.out | apply below_alloc | apply pw_below_drewN | apply below_drew1) | exact HB.out))) : w.heap.size ≤ gb274101)); have n3_ := Aside0.mk ((by rw [hg]; exact (below_size (by repeat (first | (with_reducible first | exact HB.out | apply below_alloc | apply pw_below_drewN | apply below_drew1) | exact HB.out))) : w.heap.size ≤ gb274101)); clear HB; have HB := n0_; have BK274101 := n1_; have GW274101 := n2_; have GE274101 := n3_; clear n0_ n1_ n2_ n3_; clear hb hbox hg; have hcz6_0 : w5.cell? ⟨gb274101, 0, none⟩ = some (.int .i64 a0_0) := (blk_cell BK274101.out 0).trans rfl; have hcz6_1 : w5.cell? ⟨gb274101, 1, none⟩ = some (.int .i64 a0_1) := (blk_cell BK274101.out 1).trans rfl; have hcz6_2 : w5.cell? ⟨gb274101, 2, none⟩ = some (.int .i64 a0_2) := (blk_cell BK274101.out 2).trans rfl; have hcz6_3 : w5.cell? ⟨gb274101, 3, none⟩ = some (.slice A0_3 l0_3.length c0_3) := (blk_cell BK274101.out 3).trans rfl; have hfz6_0 := blk_frozen BK274101.out 0; have hfz6_1 := blk_frozen BK274101.out 1; have hfz6_2 := blk_frozen BK274101.out 2; have hfz6_3 := blk_frozen BK274101.out 3))
  go_ret
  exact ⟨by first | rfl | (simp [errW_none, errW_some] <;> rfl) | (simp [*, errW_none, errW_some] <;> rfl), by repeat (first | (with_reducible first | exact HB.out | apply below_alloc | apply pw_below_drewN | apply below_drew1 | refine below_set ?_ GE274101.out) | exact HB.out)⟩
 ·rw [if_neg c4] at H
  have c4b0 : (a1 == a0_0) = false := beq_eq_false_iff_ne.mpr c4
  have c4b1 : (a1 != a0_0) = true := bne_iff_ne.mpr c4
  by_cases c7 : (wrap64 (a1 + a2)) > a0_0
  ·rw [if_pos c7] at H
   have c7b0 : decide (a0_0 < (wrap64 (a1 + a2))) = true := decide_eq_true c7
   clear c7
   by_cases c8 : a0_2 = 0
   ·rw [if_pos c8] at H
    have c8b0 : (a0_2 == 0) = true := beq_iff_eq.mpr c8
    have c8b1 : (a0_2 != 0) = false := bne_eq_false_iff_eq.mpr c8
    clear c8
    obtain rfl := Option.some.inj H
    go_enter Try.func137, Try.ntmps137
    go_wp2_with (first | ((with_reducible refine gate_dst (N := 3) rfl ?_); refine box_event ?hg (N := 3) ?hd (cs := #[.int .i64 a0_0, .int .i64 a0_1, .int .i64 a0_2, .slice A0_3 l0_3.length c0_3]) (t := 32) ?hr ?_; (case hd => rfl); (case hg => rfl); (case hr => first | (go_simp; done) | (go_simp; rfl)); intro gb274101 hg w9 hbox hb; have n0_ := Aside0.mk (below_step (by repeat (first | (with_reducible first | exact HB.out | apply below_alloc | apply pw_below_drewN | apply below_drew1) | exact HB.out)) hb); have n1_ := Aside0.mk (hbox); have n2_ := Aside0.mk ((by rw [hg]; exact (below_size (by repeat (first | (with_reducible first | exact HB.out | apply below_alloc | apply pw_below_drewN | apply below_drew1) | exact HB.out))) : w.heap.size ≤ gb274101)); have n3_ := Aside0.mk ((by rw [hg]; exact (below_size (by repeat (first | (with_reducible first | exact HB.out | apply below_alloc | apply pw_below_drewN | apply below_drew1) | exact HB.out))) : w.heap.size ≤ gb274101)); clear HB; have HB := n0_; have BK274101 := n1_; have GW274101 := n2_; have GE274101 := n3_; clear n0_ n1_ n2_ n3_; clear hb hbox hg; have hcz10_0 : w9.cell? ⟨gb274101, 0, none⟩ = some (.int .i64 a0_0) := (blk_cell BK274101.out 0).trans rfl; have hcz10_1 : w9.cell? ⟨gb274101, 1, none⟩ = some (.int .i64 a0_1) := (blk_cell BK274101.out 1).trans rfl; have hcz10_2 : w9.cell? ⟨gb274101, 2, none⟩ = some (.int .i64 a0_2) := (blk_cell BK274101.out 2).trans rfl; have hcz10_3 : w9.cell? ⟨gb274101, 3, none⟩ = some (.slice A0_3 l0_3.length c0_3) := (blk_cell BK274101.out 3).trans rfl; have hfz10_0 := blk_frozen BK274101.out 0; have hfz10_1 := blk_frozen BK274101.out 1; have hfz10_2 := blk_frozen BK274101.out 2; have hfz10_3 := blk_frozen BK274101.out 3))
    go_ret
    exact ⟨by first | rfl | (simp [errW_none, errW_some] <;> rfl) | (simp [*, errW_none, errW_some] <;> rfl), by repeat (first | (with_reducible first | exact HB.out | apply below_alloc | apply pw_below_drewN | apply below_drew1 | refine below_set ?_ GE274101.out) | exact HB.out)⟩
   ·rw [if_neg c8] at H
    have c8b0 : (a0_2 == 0) = false := beq_eq_false_iff_ne.mpr c8
    have c8b1 : (a0_2 != 0) = true := bne_iff_ne.mpr c8
    by_cases c11 : a0_2 = 1
    ·rw [if_pos c11] at H
     have c11b0 : (a0_2 == 1) = true := beq_iff_eq.mpr c11
     have c11b1 : (a0_2 != 1) = false := bne_eq_false_iff_eq.mpr c11
     clear c11
     obtain rfl := Option.some.inj H
     go_enter Try.func137, Try.ntmps137
     go_wp2_with (first | ((with_reducible refine gate_dst (N := 3) rfl ?_); refine box_event ?hg (N := 3) ?hd (cs := #[.int .i64 a0_0, .int .i64 a0_1, .int .i64 a0_2, .slice A0_3 l0_3.length c0_3]) (t := 32) ?hr ?_; (case hd => rfl); (case hg => rfl); (case hr => first | (go_simp; done) | (go_simp; rfl)); intro gb274101 hg w12 hbox hb; have n0_ := Aside0.mk (below_step (by repeat (first | (with_reducible first | exact HB.out | apply below_alloc | apply pw_below_drewN | apply below_drew1) | exact HB.out)) hb); have n1_ := Aside0.mk (hbox); have n2_ := Aside0.mk ((by rw [hg]; exact (below_size (by repeat (first | (with_reducible first | exact HB.out | apply below_alloc | apply pw_below_drewN | apply below_drew1) | exact HB.out))) : w.heap.size ≤ gb274101)); have n3_ := Aside0.mk ((by rw [hg]; exact (below_size (by repeat (first | (with_reducible first | exact HB.out | apply below_alloc | apply pw_below_drewN | apply below_drew1) | exact HB.out))) : w.heap.size ≤ gb274101)); clear HB; have HB := n0_; have BK274101 := n1_; have GW274101 := n2_; have GE274101 := n3_; clear n0_ n1_ n2_ n3_; clear hb hbox hg; have hcz13_0 : w12.cell? ⟨gb274101, 0, none⟩ = some (.int .i64 a0_0) := (blk_cell BK274101.out 0).trans rfl; have hcz13_1 : w12.cell? ⟨gb274101, 1, none⟩ = some (.int .i64 a0_1) := (blk_cell BK274101.out 1).trans rfl; have hcz13_2 : w12.cell? ⟨gb274101, 2, none⟩ = some (.int .i64 a0_2) := (blk_cell BK274101.out 2).trans rfl; have hcz13_3 : w12.cell? ⟨gb274101, 3, none⟩ = some (.slice A0_3 l0_3.length c0_3) := (blk_cell BK274101.out 3).trans rfl; have hfz13_0 := blk_frozen BK274101.out 0; have hfz13_1 := blk_frozen BK274101.out 1; have hfz13_2 := blk_frozen BK274101.out 2; have hfz13_3 := blk_frozen BK274101.out 3))
     go_ret
     exact ⟨by first | rfl | (simp [errW_none, errW_some] <;> rfl) | (simp [*, errW_none, errW_some] <;> rfl), by repeat (first | (with_reducible first | exact HB.out | apply below_alloc | apply pw_below_drewN | apply below_drew1 | refine below_set ?_ GE274101.out) | exact HB.out)⟩
    ·rw [if_neg c11] at H
     have c11b0 : (a0_2 == 1) = false := beq_eq_false_iff_ne.mpr c11
     have c11b1 : (a0_2 != 1) = true := bne_iff_ne.mpr c11
     by_cases c14 : (wrap64 ((wrap64 (2 * a0_0)) - (wrap64 (a1 + a2)))) < 0
     ·rw [if_pos c14] at H
      have c14b0 : decide ((wrap64 ((wrap64 (2 * a0_0)) - (wrap64 (a1 + a2)))) < 0) = true := decide_eq_true c14
      clear c14
      obtain rfl := Option.some.inj H
      go_enter Try.func137, Try.ntmps137
      go_wp2_with (first | ((with_reducible refine gate_dst (N := 3) rfl ?_); refine box_event ?hg (N := 3) ?hd (cs := #[.int .i64 a0_0, .int .i64 a0_1, .int .i64 a0_2, .slice A0_3 l0_3.length c0_3]) (t := 32) ?hr ?_; (case hd => rfl); (case hg => rfl); (case hr => first | (go_simp; done) | (go_simp; rfl)); intro gb274101 hg w15 hbox hb; have n0_ := Aside0.mk (below_step (by repeat (first | (with_reducible first | exact HB.out | apply below_alloc | apply pw_below_drewN | apply below_drew1) | exact HB.out)) hb); have n1_ := Aside0.mk (hbox); have n2_ := Aside0.mk ((by rw [hg]; exact (below_size (by repeat (first | (with_reducible first | exact HB.out | apply below_alloc | apply pw_below_drewN | apply below_drew1) | exact HB.out))) : w.heap.size ≤ gb274101)); have n3_ := Aside0.mk ((by rw [hg]; exact (below_size (by repeat (first | (with_reducible first | exact HB.out | apply below_alloc | apply pw_below_drewN | apply below_drew1) | exact HB.out))) : w.heap.size ≤ gb274101)); clear HB; have HB := n0_; have BK274101 := n1_; have GW274101 := n2_; have GE274101 := n3_; clear n0_ n1_ n2_ n3_; clear hb hbox hg; have hcz16_0 : w15.cell? ⟨gb274101, 0, none⟩ = some (.int .i64 a0_0) := (blk_cell BK274101.out 0).trans rfl; have hcz16_1 : w15.cell? ⟨gb274101, 1, none⟩ = some (.int .i64 a0_1) := (blk_cell BK274101.out 1).trans rfl; have hcz16_2 : w15.cell? ⟨gb274101, 2, none⟩ = some (.int .i64 a0_2) := (blk_cell BK274101.out 2).trans rfl; have hcz16_3 : w15.cell? ⟨gb274101, 3, none⟩ = some (.slice A0_3 l0_3.length c0_3) := (blk_cell BK274101.out 3).trans rfl; have hfz16_0 := blk_frozen BK274101.out 0; have hfz16_1 := blk_frozen BK274101.out 1; have hfz16_2 := blk_frozen BK274101.out 2; have hfz16_3 := blk_frozen BK274101.out 3))
      go_ret
      exact ⟨by first | rfl | (simp [errW_none, errW_some] <;> rfl) | (simp [*, errW_none, errW_some] <;> rfl), by repeat (first | (with_reducible first | exact HB.out | apply below_alloc | apply pw_below_drewN | apply below_drew1 | refine below_set ?_ GE274101.out) | exact HB.out)⟩
     ·rw [if_neg c14] at H
      have c14b0 : decide ((wrap64 ((wrap64 (2 * a0_0)) - (wrap64 (a1 + a2)))) < 0) = false := decide_eq_false c14
      clear c14
      replace H := Option.bind_eq_some_iff.mp H
      obtain ⟨t274102, A170, H⟩ := H
      replace H : (some t274102) = some r := H
      have A17 := Aside0.mk A170
      clear A170
      obtain rfl := Option.some.inj H
      go_enter Try.func137, Try.ntmps137
      go_wp2_with (first | ((with_reducible refine gate_dst (N := 3) rfl ?_); refine box_event ?hg (N := 3) ?hd (cs := #[.int .i64 a0_0, .int .i64 a0_1, .int .i64 a0_2, .slice A0_3 l0_3.length c0_3]) (t := 32) ?hr ?_; (case hd => rfl); (case hg => rfl); (case hr => first | (go_simp; done) | (go_simp; rfl)); intro gb274101 hg w18 hbox hb; have n0_ := Aside0.mk (below_step (by repeat (first | (with_reducible first | exact HB.out | apply below_alloc | apply pw_below_drewN | apply below_drew1) | exact HB.out)) hb); have n1_ := Aside0.mk (hbox); have n2_ := Aside0.mk ((by rw [hg]; exact (below_size (by repeat (first | (with_reducible first | exact HB.out | apply below_alloc | apply pw_below_drewN | apply below_drew1) | exact HB.out))) : w.heap.size ≤ gb274101)); have n3_ := Aside0.mk ((by rw [hg]; exact (below_size (by repeat (first | (with_reducible first | exact HB.out | apply below_alloc | apply pw_below_drewN | apply below_drew1) | exact HB.out))) : w.heap.size ≤ gb274101)); clear HB; have HB := n0_; have BK274101 := n1_; have GW274101 := n2_; have GE274101 := n3_; clear n0_ n1_ n2_ n3_; clear hb hbox hg; have hcz19_0 : w18.cell? ⟨gb274101, 0, none⟩ = some (.int .i64 a0_0) := (blk_cell BK274101.out 0).trans rfl; have hcz19_1 : w18.cell? ⟨gb274101, 1, none⟩ = some (.int .i64 a0_1) := (blk_cell BK274101.out 1).trans rfl; have hcz19_2 : w18.cell? ⟨gb274101, 2, none⟩ = some (.int .i64 a0_2) := (blk_cell BK274101.out 2).trans rfl; have hcz19_3 : w18.cell? ⟨gb274101, 3, none⟩ = some (.slice A0_3 l0_3.length c0_3) := (blk_cell BK274101.out 3).trans rfl; have hfz19_0 := blk_frozen BK274101.out 0; have hfz19_1 := blk_frozen BK274101.out 1; have hfz19_2 := blk_frozen BK274101.out 2; have hfz19_3 := blk_frozen BK274101.out 3) | ((with_reducible refine gate_callee (f := 191) rfl ?_); refine goesL_ (some 39) rfl rfl Try.func191 (by kernel_rfl) rfl #[.agg #[.int .i64 a0_0, .int .i64 a0_1, .int .i64 a0_2, .slice A0_3 l0_3.length c0_3], .int .i64 (wrap64 ((wrap64 (2 * a0_0)) - (wrap64 (a1 + a2))))] rfl (by (try simp only [List.map_toArray, List.map_cons, List.map_nil]); first | done | rfl | (simp only [List.length_drop, List.length_take]; rfl)) ?_; (with_reducible refine (spec_sqJump.calls k a0_0 a0_1 a0_2 _ _ l0_3 (wrap64 ((wrap64 (2 * a0_0)) - (wrap64 (a1 + a2)))) t274102 _ ?side1 ?side2 A17.out).mono ?_); (case side1 => repeat (first | exact (Kd.C_below HR0_3.out HB.out) | (with_reducible refine Kd.C_alloc ?_ _) | (with_reducible refine Kd.C_drewN ?_ _) | (with_reducible refine Kd.C_drew ?_))); (case side2 => exact HC0_3.out); rintro e w20 ⟨rfl, hb⟩; refine ⟨_, rfl, ?_⟩; have n0_ := Aside0.mk (blk_below (g := gb274101) (o := .cells #[.int .i64 a0_0, .int .i64 a0_1, .int .i64 a0_2, .slice A0_3 l0_3.length c0_3] 32 (0, 0)) (by (with_reducible repeat (first | refine blk_drewN ?_ _ | refine blk_drew ?_ | refine blk_alloc ?_ _)); exact BK274101.out) hb); have n1_ := Aside0.mk (below_step (by repeat (first | (with_reducible first | exact HB.out | apply below_alloc | apply pw_below_drewN | apply below_drew1 | refine below_set ?_ GE274101.out) | exact HB.out)) hb); clear BK274101; clear HB; have BK274101 := n0_; have HB := n1_; clear n0_ n1_; (try clear hb); (try clear hb2); (try clear hk); (try clear hi)))
      go_ret
      exact ⟨by first | rfl | (simp [errW_none, errW_some] <;> rfl) | (simp [*, errW_none, errW_some] <;> rfl), by repeat (first | (with_reducible first | exact HB.out | apply below_alloc | apply pw_below_drewN | apply below_drew1 | refine below_set ?_ GE274101.out) | exact HB.out)⟩
  ·rw [if_neg c7] at H
   have c7b0 : decide (a0_0 < (wrap64 (a1 + a2))) = false := decide_eq_false c7
   clear c7
   replace H := Option.bind_eq_some_iff.mp H
   obtain ⟨t274103, A210, H⟩ := H
   replace H : (some t274103) = some r := H
   have A21 := Aside0.mk A210
   clear A210
   obtain rfl := Option.some.inj H
   go_enter Try.func137, Try.ntmps137
   go_wp2_with (first | ((with_reducible refine gate_dst (N := 3) rfl ?_); refine box_event ?hg (N := 3) ?hd (cs := #[.int .i64 a0_0, .int .i64 a0_1, .int .i64 a0_2, .slice A0_3 l0_3.length c0_3]) (t := 32) ?hr ?_; (case hd => rfl); (case hg => rfl); (case hr => first | (go_simp; done) | (go_simp; rfl)); intro gb274101 hg w22 hbox hb; have n0_ := Aside0.mk (below_step (by repeat (first | (with_reducible first | exact HB.out | apply below_alloc | apply pw_below_drewN | apply below_drew1) | exact HB.out)) hb); have n1_ := Aside0.mk (hbox); have n2_ := Aside0.mk ((by rw [hg]; exact (below_size (by repeat (first | (with_reducible first | exact HB.out | apply below_alloc | apply pw_below_drewN | apply below_drew1) | exact HB.out))) : w.heap.size ≤ gb274101)); have n3_ := Aside0.mk ((by rw [hg]; exact (below_size (by repeat (first | (with_reducible first | exact HB.out | apply below_alloc | apply pw_below_drewN | apply below_drew1) | exact HB.out))) : w.heap.size ≤ gb274101)); clear HB; have HB := n0_; have BK274101 := n1_; have GW274101 := n2_; have GE274101 := n3_; clear n0_ n1_ n2_ n3_; clear hb hbox hg; have hcz23_0 : w22.cell? ⟨gb274101, 0, none⟩ = some (.int .i64 a0_0) := (blk_cell BK274101.out 0).trans rfl; have hcz23_1 : w22.cell? ⟨gb274101, 1, none⟩ = some (.int .i64 a0_1) := (blk_cell BK274101.out 1).trans rfl; have hcz23_2 : w22.cell? ⟨gb274101, 2, none⟩ = some (.int .i64 a0_2) := (blk_cell BK274101.out 2).trans rfl; have hcz23_3 : w22.cell? ⟨gb274101, 3, none⟩ = some (.slice A0_3 l0_3.length c0_3) := (blk_cell BK274101.out 3).trans rfl; have hfz23_0 := blk_frozen BK274101.out 0; have hfz23_1 := blk_frozen BK274101.out 1; have hfz23_2 := blk_frozen BK274101.out 2; have hfz23_3 := blk_frozen BK274101.out 3) | ((with_reducible refine gate_callee (f := 191) rfl ?_); refine goesL_ (some 39) rfl rfl Try.func191 (by kernel_rfl) rfl #[.agg #[.int .i64 a0_0, .int .i64 a0_1, .int .i64 a0_2, .slice A0_3 l0_3.length c0_3], .int .i64 (wrap64 (a1 + a2))] rfl (by (try simp only [List.map_toArray, List.map_cons, List.map_nil]); first | done | rfl | (simp only [List.length_drop, List.length_take]; rfl)) ?_; (with_reducible refine (spec_sqJump.calls k a0_0 a0_1 a0_2 _ _ l0_3 (wrap64 (a1 + a2)) t274103 _ ?side1 ?side2 A21.out).mono ?_); (case side1 => repeat (first | exact (Kd.C_below HR0_3.out HB.out) | (with_reducible refine Kd.C_alloc ?_ _) | (with_reducible refine Kd.C_drewN ?_ _) | (with_reducible refine Kd.C_drew ?_))); (case side2 => exact HC0_3.out); rintro e w24 ⟨rfl, hb⟩; refine ⟨_, rfl, ?_⟩; have n0_ := Aside0.mk (blk_below (g := gb274101) (o := .cells #[.int .i64 a0_0, .int .i64 a0_1, .int .i64 a0_2, .slice A0_3 l0_3.length c0_3] 32 (0, 0)) (by (with_reducible repeat (first | refine blk_drewN ?_ _ | refine blk_drew ?_ | refine blk_alloc ?_ _)); exact BK274101.out) hb); have n1_ := Aside0.mk (below_step (by repeat (first | (with_reducible first | exact HB.out | apply below_alloc | apply pw_below_drewN | apply below_drew1 | refine below_set ?_ GE274101.out) | exact HB.out)) hb); clear BK274101; clear HB; have BK274101 := n0_; have HB := n1_; clear n0_ n1_; (try clear hb); (try clear hb2); (try clear hk); (try clear hi)))
   go_ret
   exact ⟨by first | rfl | (simp [errW_none, errW_some] <;> rfl) | (simp [*, errW_none, errW_some] <;> rfl), by repeat (first | (with_reducible first | exact HB.out | apply below_alloc | apply pw_below_drewN | apply below_drew1 | refine below_set ?_ GE274101.out) | exact HB.out)⟩

end

section
/-! ### impl_within: function 131 -/
def impl_within.f (a0 : Int) (a1 : Int) (a2 : Int) : Option (Bool) := if a0 ≥ a1 then (some (decide (a0 ≤ a2))) else (some false)
set_option maxHeartbeats 8000000 in
set_option maxRecDepth 100000 in
theorem impl_within.calls (a0 : Int) (a1 : Int) (a2 : Int) (r : Bool) (w : World) (h : impl_within.f a0 a1 a2 = some r) :
  Calls Try.prog 131 #[.int .i64 a0, .int .i64 a1, .int .i64 a2] w fun e w' => e = .returned (.bool r) ∧ Drawn0 w w' := by
 have H : (if a0 ≥ a1 then (some (decide (a0 ≤ a2))) else (some false)) = some r := h
 clear h
 by_cases c4 : a0 ≥ a1
 ·rw [if_pos c4] at H
  have c4b0 : decide (a1 ≤ a0) = true := decide_eq_true c4
  clear c4
  obtain rfl := Option.some.inj H
  go_enter Try.func131, Try.ntmps131
  go_wp2
  go_ret
  exact ⟨by first | rfl | (simp; done) | (simp [*]; done), by repeat (first | exact Drawn0.refl _ | apply Drawn0.step)⟩
 ·rw [if_neg c4] at H
  have c4b0 : decide (a1 ≤ a0) = false := decide_eq_false c4
  clear c4
  obtain rfl := Option.some.inj H
  go_enter Try.func131, Try.ntmps131
  go_wp2
  go_ret
  exact ⟨by first | rfl | (simp; done) | (simp [*]; done), by repeat (first | exact Drawn0.refl _ | apply Drawn0.step)⟩

end

section
/-! ### impl_Board_begins: function 132 -/
def impl_Board_begins.l0 : Nat → Int → List (S27) → Int → Int → Option (Int × Bool)
 | 0, _, _, _, _ => none
 | k + 1, x1, x9, x10, x11 => if x11 < x10 then (if 0 ≤ x11 then (if x11 < (x9.length : Int) then (if ((rd_T27 x9 x11).f0) = x1 then (some ((rd_T27 x9 x11).f1, true)) else (impl_Board_begins.l0 k x1 x9 x10 (wrap64 (x11 + 1)))) else (none)) else (none)) else (some (x1, false))
def impl_Board_begins.f (k : Nat) (a0_0 : Int) (a0_1 : Int) (a0_2 : Int) (l0_3 : List (S27)) (a1 : Int) : Option (Int × Bool) := impl_Board_begins.l0 k a1 l0_3 (l0_3.length : Int) 0
set_option maxHeartbeats 8000000 in
set_option maxRecDepth 100000 in
theorem impl_Board_begins.calls (k : Nat) (a0_0 : Int) (a0_1 : Int) (a0_2 : Int) (A0_3 : Option Addr) (c0_3 : Nat) (l0_3 : List (S27)) (a1 : Int) (r1 : Int) (r2 : Bool) (w : World) (hr0_3 : Kd.C k27 w A0_3 l0_3.length l0_3) (hc0_3 : l0_3.length ≤ c0_3) (h : impl_Board_begins.f k a0_0 a0_1 a0_2 l0_3 a1 = some (r1, r2)) :
  Calls Try.prog 132 #[.agg #[.int .i64 a0_0, .int .i64 a0_1, .int .i64 a0_2, .slice A0_3 l0_3.length c0_3], .int .i64 a1] w fun e w' => e = .returned (.tuple #[.int .i64 r1, .bool r2]) ∧ Below w.heap.size w w' := by
 have hu32 := Try.underlying32
 have hu27 := Try.underlying27
 have HR0_3 := Aside0.mk hr0_3
 have HC0_3 := Aside0.mk hc0_3
 clear hr0_3 hc0_3
 have HB := Aside0.mk (Below.refl w.heap.size w)
 have H : (impl_Board_begins.l0 k a1 l0_3 (l0_3.length : Int) 0) = some (r1, r2) := h
 clear h
 have H' := Aside0.mk H
 clear H
 go_enter Try.func132, Try.ntmps132
 go_wp2_with (first | ((with_reducible refine gate_dst (N := 2) rfl ?_); refine box_event ?hg (N := 2) ?hd (cs := #[.int .i64 a0_0, .int .i64 a0_1, .int .i64 a0_2, .slice A0_3 l0_3.length c0_3]) (t := 32) ?hr ?_; (case hd => rfl); (case hg => rfl); (case hr => first | (go_simp; done) | (go_simp; rfl)); intro gb264101 hg w3 hbox hb; have n0_ := Aside0.mk (below_step (by repeat (first | (with_reducible first | exact HB.out | apply below_alloc | apply pw_below_drewN | apply below_drew1) | exact HB.out)) hb); have n1_ := Aside0.mk (hbox); have n2_ := Aside0.mk ((by rw [hg]; exact (below_size (by repeat (first | (with_reducible first | exact HB.out | apply below_alloc | apply pw_below_drewN | apply below_drew1) | exact HB.out))) : w.heap.size ≤ gb264101)); have n3_ := Aside0.mk ((by rw [hg]; exact (below_size (by repeat (first | (with_reducible first | exact HB.out | apply below_alloc | apply pw_below_drewN | apply below_drew1) | exact HB.out))) : w.heap.size ≤ gb264101)); clear HB; have HB := n0_; have BK264101 := n1_; have GW264101 := n2_; have GE264101 := n3_; clear n0_ n1_ n2_ n3_; clear hb hbox hg; have hcz4_0 : w3.cell? ⟨gb264101, 0, none⟩ = some (.int .i64 a0_0) := (blk_cell BK264101.out 0).trans rfl; have hcz4_1 : w3.cell? ⟨gb264101, 1, none⟩ = some (.int .i64 a0_1) := (blk_cell BK264101.out 1).trans rfl; have hcz4_2 : w3.cell? ⟨gb264101, 2, none⟩ = some (.int .i64 a0_2) := (blk_cell BK264101.out 2).trans rfl; have hcz4_3 : w3.cell? ⟨gb264101, 3, none⟩ = some (.slice A0_3 l0_3.length c0_3) := (blk_cell BK264101.out 3).trans rfl; have hfz4_0 := blk_frozen BK264101.out 0; have hfz4_1 := blk_frozen BK264101.out 1; have hfz4_2 := blk_frozen BK264101.out 2; have hfz4_3 := blk_frozen BK264101.out 3))
 go_loopg [11] k (fun kq v11 w' => ∃ (x11_1 : Int), v11 = .int .i64 x11_1 ∧ Aside0 (impl_Board_begins.l0 kq a1 l0_3 (l0_3.length : Int) x11_1 = some (r1, r2)) ∧ Aside0 (kq ≤ k) ∧ Aside0 (w'.heap[gb264101]? = some (.cells #[.int .i64 a0_0, .int .i64 a0_1, .int .i64 a0_2, (.slice A0_3 l0_3.length c0_3)] 32 (0, 0))) ∧ Aside0 (Below w.heap.size w w'))
 case atStart => exact ⟨(0), (by first | rfl | (simp; done) | (simp [*]; done)), H', ⟨Nat.le_refl _⟩, ⟨by (with_reducible repeat (first | refine blk_drewN ?_ _ | refine blk_drew ?_ | refine blk_alloc ?_ _)); exact BK264101.out⟩, ⟨by repeat (first | (with_reducible first | exact HB.out | apply below_alloc | apply pw_below_drewN | apply below_drew1 | refine below_set ?_ GE264101.out) | exact HB.out)⟩⟩
 case round =>
  clear H'
  try clear c1
  try clear p2
  try clear hcz4_0
  try clear hcz4_1
  try clear hcz4_2
  try clear hcz4_3
  try clear hfz4_0
  try clear hfz4_1
  try clear hfz4_2
  try clear hfz4_3
  obtain ⟨x11_1, rfl, HA, HK1, BK264101, HB⟩ := hrel
  cases gk with
  | zero => exact absurd HA.out (by simp [impl_Board_begins.l0])
  | succ k1 =>
   have H := HA.out
   clear HA
   simp only [impl_Board_begins.l0] at H
   by_cases c5 : x11_1 < (l0_3.length : Int)
   ·rw [if_pos c5] at H
    have c5b0 : decide (x11_1 < (l0_3.length : Int)) = true := decide_eq_true c5
    clear c5
    by_cases c6 : 0 ≤ x11_1
    ·rw [if_pos c6] at H
     have c6b0 : decide (0 ≤ x11_1) = true := decide_eq_true c6
     clear c6
     by_cases c7 : x11_1 < (l0_3.length : Int)
     ·rw [if_pos c7] at H
      have c7b0 : decide (x11_1 < (l0_3.length : Int)) = true := decide_eq_true c7
      clear c7
      by_cases c8 : ((rd_T27 l0_3 x11_1).f0) = a1
      ·rw [if_pos c8] at H
       have c8b0 : (((rd_T27 l0_3 x11_1).f0) == a1) = true := beq_iff_eq.mpr c8
       have c8b1 : (((rd_T27 l0_3 x11_1).f0) != a1) = false := bne_eq_false_iff_eq.mpr c8
       clear c8
       simp only [Option.some.injEq, Prod.mk.injEq] at H
       obtain ⟨rfl, rfl⟩ := H
       have p264102 : 0 ≤ (x11_1 : Int) := of_decide_eq_true (by first | (with_reducible assumption) | assumption)
       have q264102 : x11_1 < (l0_3.length : Int) := of_decide_eq_true (by first | (with_reducible assumption) | assumption)
       obtain ⟨ad264102, e264102, hx264102_0, hx264102_1⟩ := at_T27 HR0_3.out x11_1 p264102 q264102
       cases e264102
       first | (replace hx264102_0 := (HB.out.cell (World.block_lt_of_cell? w _ hx264102_0)).trans hx264102_0) | skip
       first | (replace hx264102_1 := (HB.out.cell (World.block_lt_of_cell? w _ hx264102_1)).trans hx264102_1) | skip
       replace p264102 := eq_true p264102
       replace q264102 := eq_true q264102
       go_wp2_with (first | ((with_reducible refine gate_dst (N := 7) rfl ?_); refine box_event ?hg (N := 7) ?hd (cs := #[.int .i64 0, .int .i64 0]) (t := 27) ?hr ?_; (case hd => rfl); (case hg => rfl); (case hr => first | (go_simp; done) | (go_simp; rfl)); intro gb264103 hg w9 hbox hb; have n0_ := Aside0.mk (blk_below (g := gb264101) (o := .cells #[.int .i64 a0_0, .int .i64 a0_1, .int .i64 a0_2, .slice (some ad264102) l0_3.length c0_3] 32 (0, 0)) (by (with_reducible repeat (first | refine blk_drewN ?_ _ | refine blk_drew ?_ | refine blk_alloc ?_ _)); exact BK264101.out) hb); have n1_ := Aside0.mk (below_step (by repeat (first | (with_reducible first | exact HB.out | apply below_alloc | apply pw_below_drewN | apply below_drew1 | refine below_set ?_ GE264101.out) | exact HB.out)) hb); have n2_ := Aside0.mk (hbox); have n3_ := Aside0.mk ((by rw [hg]; exact (below_size (by repeat (first | (with_reducible first | exact HB.out | apply below_alloc | apply pw_below_drewN | apply below_drew1 | refine below_set ?_ GE264101.out) | exact HB.out))) : w.heap.size ≤ gb264103)); have n4_ := Aside0.mk ((by rw [hg]; exact (below_size (by repeat (first | (with_reducible first | exact HB.out | apply below_alloc | apply pw_below_drewN | apply below_drew1 | refine below_set ?_ GE264101.out) | exact HB.out))) : w.heap.size ≤ gb264103)); have n5_ := Aside0.mk ((by rw [hg]; exact Nat.ne_of_lt (blk_lt (g := gb264101) (o := .cells #[.int .i64 a0_0, .int .i64 a0_1, .int .i64 a0_2, .slice (some ad264102) l0_3.length c0_3] 32 (0, 0)) (by (with_reducible repeat (first | refine blk_drewN ?_ _ | refine blk_drew ?_ | refine blk_alloc ?_ _)); exact BK264101.out)) : gb264101 ≠ gb264103)); have n6_ := Aside0.mk ((by rw [hg]; exact Nat.ne_of_gt (blk_lt (g := gb264101) (o := .cells #[.int .i64 a0_0, .int .i64 a0_1, .int .i64 a0_2, .slice (some ad264102) l0_3.length c0_3] 32 (0, 0)) (by (with_reducible repeat (first | refine blk_drewN ?_ _ | refine blk_drew ?_ | refine blk_alloc ?_ _)); exact BK264101.out)) : gb264103 ≠ gb264101)); clear BK264101; clear HB; have BK264101 := n0_; have HB := n1_; have BK264103 := n2_; have GW264103 := n3_; have GE264103 := n4_; have NB264101_264103 := n5_; have NB264103_264101 := n6_; clear n0_ n1_ n2_ n3_ n4_ n5_ n6_; clear hb hbox hg; have hnb10 := NB264103_264101.out; have hnc10 := NB264101_264103.out; have hcz11_0 : w9.cell? ⟨gb264103, 0, none⟩ = some (.int .i64 0) := (blk_cell BK264103.out 0).trans rfl; have hcz11_1 : w9.cell? ⟨gb264103, 1, none⟩ = some (.int .i64 0) := (blk_cell BK264103.out 1).trans rfl; have hfz11_0 := blk_frozen BK264103.out 0; have hfz11_1 := blk_frozen BK264103.out 1))
       go_ret2
       exact ⟨by first | rfl | (simp [errW_none, errW_some] <;> rfl) | (simp [*, errW_none, errW_some] <;> rfl), by repeat (first | (with_reducible first | exact HB.out | apply below_alloc | apply pw_below_drewN | apply below_drew1 | refine below_set ?_ GE264101.out | refine below_set ?_ GE264103.out) | exact HB.out)⟩
      ·rw [if_neg c8] at H
       have c8b0 : (((rd_T27 l0_3 x11_1).f0) == a1) = false := beq_eq_false_iff_ne.mpr c8
       have c8b1 : (((rd_T27 l0_3 x11_1).f0) != a1) = true := bne_iff_ne.mpr c8
       have H' := Aside0.mk H
       clear H
       have p264102 : 0 ≤ (x11_1 : Int) := of_decide_eq_true (by first | (with_reducible assumption) | assumption)
       have q264102 : x11_1 < (l0_3.length : Int) := of_decide_eq_true (by first | (with_reducible assumption) | assumption)
       obtain ⟨ad264102, e264102, hx264102_0, hx264102_1⟩ := at_T27 HR0_3.out x11_1 p264102 q264102
       cases e264102
       first | (replace hx264102_0 := (HB.out.cell (World.block_lt_of_cell? w _ hx264102_0)).trans hx264102_0) | skip
       first | (replace hx264102_1 := (HB.out.cell (World.block_lt_of_cell? w _ hx264102_1)).trans hx264102_1) | skip
       replace p264102 := eq_true p264102
       replace q264102 := eq_true q264102
       go_wp2_with (first | ((with_reducible refine gate_dst (N := 7) rfl ?_); refine box_event ?hg (N := 7) ?hd (cs := #[.int .i64 0, .int .i64 0]) (t := 27) ?hr ?_; (case hd => rfl); (case hg => rfl); (case hr => first | (go_simp; done) | (go_simp; rfl)); intro gb264103 hg w12 hbox hb; have n0_ := Aside0.mk (blk_below (g := gb264101) (o := .cells #[.int .i64 a0_0, .int .i64 a0_1, .int .i64 a0_2, .slice (some ad264102) l0_3.length c0_3] 32 (0, 0)) (by (with_reducible repeat (first | refine blk_drewN ?_ _ | refine blk_drew ?_ | refine blk_alloc ?_ _)); exact BK264101.out) hb); have n1_ := Aside0.mk (below_step (by repeat (first | (with_reducible first | exact HB.out | apply below_alloc | apply pw_below_drewN | apply below_drew1 | refine below_set ?_ GE264101.out) | exact HB.out)) hb); have n2_ := Aside0.mk (hbox); have n3_ := Aside0.mk ((by rw [hg]; exact (below_size (by repeat (first | (with_reducible first | exact HB.out | apply below_alloc | apply pw_below_drewN | apply below_drew1 | refine below_set ?_ GE264101.out) | exact HB.out))) : w.heap.size ≤ gb264103)); have n4_ := Aside0.mk ((by rw [hg]; exact (below_size (by repeat (first | (with_reducible first | exact HB.out | apply below_alloc | apply pw_below_drewN | apply below_drew1 | refine below_set ?_ GE264101.out) | exact HB.out))) : w.heap.size ≤ gb264103)); have n5_ := Aside0.mk ((by rw [hg]; exact Nat.ne_of_lt (blk_lt (g := gb264101) (o := .cells #[.int .i64 a0_0, .int .i64 a0_1, .int .i64 a0_2, .slice (some ad264102) l0_3.length c0_3] 32 (0, 0)) (by (with_reducible repeat (first | refine blk_drewN ?_ _ | refine blk_drew ?_ | refine blk_alloc ?_ _)); exact BK264101.out)) : gb264101 ≠ gb264103)); have n6_ := Aside0.mk ((by rw [hg]; exact Nat.ne_of_gt (blk_lt (g := gb264101) (o := .cells #[.int .i64 a0_0, .int .i64 a0_1, .int .i64 a0_2, .slice (some ad264102) l0_3.length c0_3] 32 (0, 0)) (by (with_reducible repeat (first | refine blk_drewN ?_ _ | refine blk_drew ?_ | refine blk_alloc ?_ _)); exact BK264101.out)) : gb264103 ≠ gb264101)); clear BK264101; clear HB; have BK264101 := n0_; have HB := n1_; have BK264103 := n2_; have GW264103 := n3_; have GE264103 := n4_; have NB264101_264103 := n5_; have NB264103_264101 := n6_; clear n0_ n1_ n2_ n3_ n4_ n5_ n6_; clear hb hbox hg; have hnb13 := NB264103_264101.out; have hnc13 := NB264101_264103.out; have hcz14_0 : w12.cell? ⟨gb264103, 0, none⟩ = some (.int .i64 0) := (blk_cell BK264103.out 0).trans rfl; have hcz14_1 : w12.cell? ⟨gb264103, 1, none⟩ = some (.int .i64 0) := (blk_cell BK264103.out 1).trans rfl; have hfz14_0 := blk_frozen BK264103.out 0; have hfz14_1 := blk_frozen BK264103.out 1))
       go_roundg k1
       case measure => have := HK1.out; omega
       case rel => exact ⟨(wrap64 (x11_1 + 1)), (by first | rfl | (simp; done) | (simp [*]; done)), H', ⟨by have := HK1.out; omega⟩, ⟨by (with_reducible repeat (first | refine blk_drewN ?_ _ | refine blk_drew ?_ | refine blk_alloc ?_ _)); refine blk_far ?_ NB264101_264103.out _; (with_reducible repeat (first | refine blk_drewN ?_ _ | refine blk_drew ?_ | refine blk_alloc ?_ _)); refine blk_far ?_ NB264101_264103.out _; (with_reducible repeat (first | refine blk_drewN ?_ _ | refine blk_drew ?_ | refine blk_alloc ?_ _)); exact BK264101.out⟩, ⟨by repeat (first | (with_reducible first | exact HB.out | apply below_alloc | apply pw_below_drewN | apply below_drew1 | refine below_set ?_ GE264101.out | refine below_set ?_ GE264103.out) | exact HB.out)⟩⟩
     ·rw [if_neg c7] at H
      exact absurd H (by simp)
    ·rw [if_neg c6] at H
     exact absurd H (by simp)
   ·rw [if_neg c5] at H
    have c5b0 : decide (x11_1 < (l0_3.length : Int)) = false := decide_eq_false c5
    clear c5
    simp only [Option.some.injEq, Prod.mk.injEq] at H
    obtain ⟨rfl, rfl⟩ := H
    go_wp2
    go_ret2
    exact ⟨by first | rfl | (simp [errW_none, errW_some] <;> rfl) | (simp [*, errW_none, errW_some] <;> rfl), by repeat (first | (with_reducible first | exact HB.out | apply below_alloc | apply pw_below_drewN | apply below_drew1 | refine below_set ?_ GE264101.out) | exact HB.out)⟩

end

section
/-! ### impl_Board_isSquare: function 166 -/
def impl_Board_isSquare.f (k : Nat) (a0_0 : Int) (a0_1 : Int) (a0_2 : Int) (l0_3 : List (S27)) (a1 : Int) : Option (Bool) := (impl_Board_begins.f k a0_0 a0_1 a0_2 l0_3 a1).bind fun bt332102 => ((impl_within.f a1 0 a0_0).bind fun t332104 => (if t332104 = true then (some (!bt332102.2)) else (some false)))
set_option maxHeartbeats 8000000 in
set_option maxRecDepth 100000 in
theorem impl_Board_isSquare.calls (k : Nat) (a0_0 : Int) (a0_1 : Int) (a0_2 : Int) (A0_3 : Option Addr) (c0_3 : Nat) (l0_3 : List (S27)) (a1 : Int) (r : Bool) (w : World) (hr0_3 : Kd.C k27 w A0_3 l0_3.length l0_3) (hc0_3 : l0_3.length ≤ c0_3) (h : impl_Board_isSquare.f k a0_0 a0_1 a0_2 l0_3 a1 = some r) :
  Calls Try.prog 166 #[.agg #[.int .i64 a0_0, .int .i64 a0_1, .int .i64 a0_2, .slice A0_3 l0_3.length c0_3], .int .i64 a1] w fun e w' => e = .returned (.bool r) ∧ Below w.heap.size w w' := by
 have hu32 := Try.underlying32
 have HR0_3 := Aside0.mk hr0_3
 have HC0_3 := Aside0.mk hc0_3
 clear hr0_3 hc0_3
 have HB := Aside0.mk (Below.refl w.heap.size w)
 have H : ((impl_Board_begins.f k a0_0 a0_1 a0_2 l0_3 a1).bind fun bt332102 => ((impl_within.f a1 0 a0_0).bind fun t332104 => (if t332104 = true then (some (!bt332102.2)) else (some false)))) = some r := h
 clear h
 replace H := Option.bind_eq_some_iff.mp H
 obtain ⟨⟨t332102, t332103⟩, A30, H⟩ := H
 replace H : ((impl_within.f a1 0 a0_0).bind fun t332104 => (if t332104 = true then (some (!t332103)) else (some false))) = some r := H
 have A3 := Aside0.mk A30
 clear A30
 replace H := Option.bind_eq_some_iff.mp H
 obtain ⟨t332104, A40, H⟩ := H
 replace H : (if t332104 = true then (some (!t332103)) else (some false)) = some r := H
 have A4 := Aside0.mk A40
 clear A40
 by_cases c5 : t332104 = true
 ·subst c5
  have H1 : (some (!t332103)) = some r := by rw [if_pos rfl] at H; exact H
  clear H
  have H := H1
  clear H1
  obtain rfl := Option.some.inj H
  go_enter Try.func166, Try.ntmps166
  go_wp2_with (first | ((with_reducible refine gate_dst (N := 2) rfl ?_); refine box_event ?hg (N := 2) ?hd (cs := #[.int .i64 a0_0, .int .i64 a0_1, .int .i64 a0_2, .slice A0_3 l0_3.length c0_3]) (t := 32) ?hr ?_; (case hd => rfl); (case hg => rfl); (case hr => first | (go_simp; done) | (go_simp; rfl)); intro gb332101 hg w6 hbox hb; have n0_ := Aside0.mk (below_step (by repeat (first | (with_reducible first | exact HB.out | apply below_alloc | apply pw_below_drewN | apply below_drew1) | exact HB.out)) hb); have n1_ := Aside0.mk (hbox); have n2_ := Aside0.mk ((by rw [hg]; exact (below_size (by repeat (first | (with_reducible first | exact HB.out | apply below_alloc | apply pw_below_drewN | apply below_drew1) | exact HB.out))) : w.heap.size ≤ gb332101)); have n3_ := Aside0.mk ((by rw [hg]; exact (below_size (by repeat (first | (with_reducible first | exact HB.out | apply below_alloc | apply pw_below_drewN | apply below_drew1) | exact HB.out))) : w.heap.size ≤ gb332101)); clear HB; have HB := n0_; have BK332101 := n1_; have GW332101 := n2_; have GE332101 := n3_; clear n0_ n1_ n2_ n3_; clear hb hbox hg; have hcz7_0 : w6.cell? ⟨gb332101, 0, none⟩ = some (.int .i64 a0_0) := (blk_cell BK332101.out 0).trans rfl; have hcz7_1 : w6.cell? ⟨gb332101, 1, none⟩ = some (.int .i64 a0_1) := (blk_cell BK332101.out 1).trans rfl; have hcz7_2 : w6.cell? ⟨gb332101, 2, none⟩ = some (.int .i64 a0_2) := (blk_cell BK332101.out 2).trans rfl; have hcz7_3 : w6.cell? ⟨gb332101, 3, none⟩ = some (.slice A0_3 l0_3.length c0_3) := (blk_cell BK332101.out 3).trans rfl; have hfz7_0 := blk_frozen BK332101.out 0; have hfz7_1 := blk_frozen BK332101.out 1; have hfz7_2 := blk_frozen BK332101.out 2; have hfz7_3 := blk_frozen BK332101.out 3) | ((with_reducible refine gate_callee (f := 132) rfl ?_); refine goesL_ (some 10) rfl rfl Try.func132 (by kernel_rfl) rfl #[.agg #[.int .i64 a0_0, .int .i64 a0_1, .int .i64 a0_2, .slice A0_3 l0_3.length c0_3], .int .i64 a1] rfl (by (try simp only [List.map_toArray, List.map_cons, List.map_nil]); first | done | rfl | (simp only [List.length_drop, List.length_take]; rfl)) ?_; (with_reducible refine (impl_Board_begins.calls k a0_0 a0_1 a0_2 _ _ l0_3 a1 t332102 t332103 _ ?side1 ?side2 A3.out).mono ?_); (case side1 => repeat (first | exact (Kd.C_below HR0_3.out HB.out) | (with_reducible refine Kd.C_alloc ?_ _) | (with_reducible refine Kd.C_drewN ?_ _) | (with_reducible refine Kd.C_drew ?_))); (case side2 => exact HC0_3.out); rintro e w8 ⟨rfl, hb⟩; refine ⟨_, rfl, ?_⟩; have n0_ := Aside0.mk (blk_below (g := gb332101) (o := .cells #[.int .i64 a0_0, .int .i64 a0_1, .int .i64 a0_2, .slice A0_3 l0_3.length c0_3] 32 (0, 0)) (by (with_reducible repeat (first | refine blk_drewN ?_ _ | refine blk_drew ?_ | refine blk_alloc ?_ _)); exact BK332101.out) hb); have n1_ := Aside0.mk (below_step (by repeat (first | (with_reducible first | exact HB.out | apply below_alloc | apply pw_below_drewN | apply below_drew1 | refine below_set ?_ GE332101.out) | exact HB.out)) hb); clear BK332101; clear HB; have BK332101 := n0_; have HB := n1_; clear n0_ n1_; (try clear hb); (try clear hb2); (try clear hk); (try clear hi); have hcz9_0 : w8.cell? ⟨gb332101, 0, none⟩ = some (.int .i64 a0_0) := (blk_cell BK332101.out 0).trans rfl; have hcz9_1 : w8.cell? ⟨gb332101, 1, none⟩ = some (.int .i64 a0_1) := (blk_cell BK332101.out 1).trans rfl; have hcz9_2 : w8.cell? ⟨gb332101, 2, none⟩ = some (.int .i64 a0_2) := (blk_cell BK332101.out 2).trans rfl; have hcz9_3 : w8.cell? ⟨gb332101, 3, none⟩ = some (.slice A0_3 l0_3.length c0_3) := (blk_cell BK332101.out 3).trans rfl; have hfz9_0 := blk_frozen BK332101.out 0; have hfz9_1 := blk_frozen BK332101.out 1; have hfz9_2 := blk_frozen BK332101.out 2; have hfz9_3 := blk_frozen BK332101.out 3) | ((with_reducible refine gate_callee (f := 131) rfl ?_); refine goesL_ (some 16) rfl rfl Try.func131 (by kernel_rfl) rfl #[.int .i64 a1, .int .i64 0, .int .i64 a0_0] rfl (by (try simp only [List.map_toArray, List.map_cons, List.map_nil]); first | done | rfl | (simp only [List.length_drop, List.length_take]; rfl)) ?_; (with_reducible refine (impl_within.calls a1 0 a0_0 true _ A4.out).mono ?_); rintro e w' ⟨rfl, ⟨nd, rfl⟩⟩; refine ⟨_, rfl, ?_⟩))
  go_ret
  exact ⟨by first | rfl | (simp [errW_none, errW_some] <;> rfl) | (simp [*, errW_none, errW_some] <;> rfl), by repeat (first | (with_reducible first | exact HB.out | apply below_alloc | apply pw_below_drewN | apply below_drew1 | refine below_set ?_ GE332101.out) | exact HB.out)⟩
 ·replace c5 := Bool.eq_false_iff.mpr c5
  subst c5
  have H1 : (some false) = some r := by rw [if_neg (show ¬ (false = true) by decide)] at H; exact H
  clear H
  have H := H1
  clear H1
  obtain rfl := Option.some.inj H
  go_enter Try.func166, Try.ntmps166
  go_wp2_with (first | ((with_reducible refine gate_dst (N := 2) rfl ?_); refine box_event ?hg (N := 2) ?hd (cs := #[.int .i64 a0_0, .int .i64 a0_1, .int .i64 a0_2, .slice A0_3 l0_3.length c0_3]) (t := 32) ?hr ?_; (case hd => rfl); (case hg => rfl); (case hr => first | (go_simp; done) | (go_simp; rfl)); intro gb332101 hg w10 hbox hb; have n0_ := Aside0.mk (below_step (by repeat (first | (with_reducible first | exact HB.out | apply below_alloc | apply pw_below_drewN | apply below_drew1) | exact HB.out)) hb); have n1_ := Aside0.mk (hbox); have n2_ := Aside0.mk ((by rw [hg]; exact (below_size (by repeat (first | (with_reducible first | exact HB.out | apply below_alloc | apply pw_below_drewN | apply below_drew1) | exact HB.out))) : w.heap.size ≤ gb332101)); have n3_ := Aside0.mk ((by rw [hg]; exact (below_size (by repeat (first | (with_reducible first | exact HB.out | apply below_alloc | apply pw_below_drewN | apply below_drew1) | exact HB.out))) : w.heap.size ≤ gb332101)); clear HB; have HB := n0_; have BK332101 := n1_; have GW332101 := n2_; have GE332101 := n3_; clear n0_ n1_ n2_ n3_; clear hb hbox hg; have hcz11_0 : w10.cell? ⟨gb332101, 0, none⟩ = some (.int .i64 a0_0) := (blk_cell BK332101.out 0).trans rfl; have hcz11_1 : w10.cell? ⟨gb332101, 1, none⟩ = some (.int .i64 a0_1) := (blk_cell BK332101.out 1).trans rfl; have hcz11_2 : w10.cell? ⟨gb332101, 2, none⟩ = some (.int .i64 a0_2) := (blk_cell BK332101.out 2).trans rfl; have hcz11_3 : w10.cell? ⟨gb332101, 3, none⟩ = some (.slice A0_3 l0_3.length c0_3) := (blk_cell BK332101.out 3).trans rfl; have hfz11_0 := blk_frozen BK332101.out 0; have hfz11_1 := blk_frozen BK332101.out 1; have hfz11_2 := blk_frozen BK332101.out 2; have hfz11_3 := blk_frozen BK332101.out 3) | ((with_reducible refine gate_callee (f := 132) rfl ?_); refine goesL_ (some 10) rfl rfl Try.func132 (by kernel_rfl) rfl #[.agg #[.int .i64 a0_0, .int .i64 a0_1, .int .i64 a0_2, .slice A0_3 l0_3.length c0_3], .int .i64 a1] rfl (by (try simp only [List.map_toArray, List.map_cons, List.map_nil]); first | done | rfl | (simp only [List.length_drop, List.length_take]; rfl)) ?_; (with_reducible refine (impl_Board_begins.calls k a0_0 a0_1 a0_2 _ _ l0_3 a1 t332102 t332103 _ ?side1 ?side2 A3.out).mono ?_); (case side1 => repeat (first | exact (Kd.C_below HR0_3.out HB.out) | (with_reducible refine Kd.C_alloc ?_ _) | (with_reducible refine Kd.C_drewN ?_ _) | (with_reducible refine Kd.C_drew ?_))); (case side2 => exact HC0_3.out); rintro e w12 ⟨rfl, hb⟩; refine ⟨_, rfl, ?_⟩; have n0_ := Aside0.mk (blk_below (g := gb332101) (o := .cells #[.int .i64 a0_0, .int .i64 a0_1, .int .i64 a0_2, .slice A0_3 l0_3.length c0_3] 32 (0, 0)) (by (with_reducible repeat (first | refine blk_drewN ?_ _ | refine blk_drew ?_ | refine blk_alloc ?_ _)); exact BK332101.out) hb); have n1_ := Aside0.mk (below_step (by repeat (first | (with_reducible first | exact HB.out | apply below_alloc | apply pw_below_drewN | apply below_drew1 | refine below_set ?_ GE332101.out) | exact HB.out)) hb); clear BK332101; clear HB; have BK332101 := n0_; have HB := n1_; clear n0_ n1_; (try clear hb); (try clear hb2); (try clear hk); (try clear hi); have hcz13_0 : w12.cell? ⟨gb332101, 0, none⟩ = some (.int .i64 a0_0) := (blk_cell BK332101.out 0).trans rfl; have hcz13_1 : w12.cell? ⟨gb332101, 1, none⟩ = some (.int .i64 a0_1) := (blk_cell BK332101.out 1).trans rfl; have hcz13_2 : w12.cell? ⟨gb332101, 2, none⟩ = some (.int .i64 a0_2) := (blk_cell BK332101.out 2).trans rfl; have hcz13_3 : w12.cell? ⟨gb332101, 3, none⟩ = some (.slice A0_3 l0_3.length c0_3) := (blk_cell BK332101.out 3).trans rfl; have hfz13_0 := blk_frozen BK332101.out 0; have hfz13_1 := blk_frozen BK332101.out 1; have hfz13_2 := blk_frozen BK332101.out 2; have hfz13_3 := blk_frozen BK332101.out 3) | ((with_reducible refine gate_callee (f := 131) rfl ?_); refine goesL_ (some 16) rfl rfl Try.func131 (by kernel_rfl) rfl #[.int .i64 a1, .int .i64 0, .int .i64 a0_0] rfl (by (try simp only [List.map_toArray, List.map_cons, List.map_nil]); first | done | rfl | (simp only [List.length_drop, List.length_take]; rfl)) ?_; (with_reducible refine (impl_within.calls a1 0 a0_0 false _ A4.out).mono ?_); rintro e w' ⟨rfl, ⟨nd, rfl⟩⟩; refine ⟨_, rfl, ?_⟩))
  go_ret
  exact ⟨by first | rfl | (simp [errW_none, errW_some] <;> rfl) | (simp [*, errW_none, errW_some] <;> rfl), by repeat (first | (with_reducible first | exact HB.out | apply below_alloc | apply pw_below_drewN | apply below_drew1 | refine below_set ?_ GE332101.out) | exact HB.out)⟩

end

section
/-! ### impl_Board_landing: function 197 -/
def impl_Board_landing.f (a0_0 : Int) (a0_1 : Int) (a0_2 : Int) (l0_3 : List (S27)) (a1 : Int) (a2 : Int) : Option (Int × Bool) := if a1 = a0_0 then (some (a1, false)) else (if (wrap64 (a1 + a2)) ≤ a0_0 then (some (wrap64 (a1 + a2), true)) else (if a0_2 = 1 then (some (a0_0, true)) else (if a0_2 = 2 then (if (wrap64 ((wrap64 (2 * a0_0)) - (wrap64 (a1 + a2)))) ≥ 0 then (some (wrap64 ((wrap64 (2 * a0_0)) - (wrap64 (a1 + a2))), true)) else (some (a1, false))) else (some (a1, false)))))
set_option maxHeartbeats 8000000 in
set_option maxRecDepth 100000 in
theorem impl_Board_landing.calls (a0_0 : Int) (a0_1 : Int) (a0_2 : Int) (A0_3 : Option Addr) (c0_3 : Nat) (l0_3 : List (S27)) (a1 : Int) (a2 : Int) (r1 : Int) (r2 : Bool) (w : World) (hr0_3 : Kd.C k27 w A0_3 l0_3.length l0_3) (hc0_3 : l0_3.length ≤ c0_3) (h : impl_Board_landing.f a0_0 a0_1 a0_2 l0_3 a1 a2 = some (r1, r2)) :
  Calls Try.prog 197 #[.agg #[.int .i64 a0_0, .int .i64 a0_1, .int .i64 a0_2, .slice A0_3 l0_3.length c0_3], .int .i64 a1, .int .i64 a2] w fun e w' => e = .returned (.tuple #[.int .i64 r1, .bool r2]) ∧ Below w.heap.size w w' := by
 have hu32 := Try.underlying32
 have HR0_3 := Aside0.mk hr0_3
 have HC0_3 := Aside0.mk hc0_3
 clear hr0_3 hc0_3
 have HB := Aside0.mk (Below.refl w.heap.size w)
 have H : (if a1 = a0_0 then (some (a1, false)) else (if (wrap64 (a1 + a2)) ≤ a0_0 then (some (wrap64 (a1 + a2), true)) else (if a0_2 = 1 then (some (a0_0, true)) else (if a0_2 = 2 then (if (wrap64 ((wrap64 (2 * a0_0)) - (wrap64 (a1 + a2)))) ≥ 0 then (some (wrap64 ((wrap64 (2 * a0_0)) - (wrap64 (a1 + a2))), true)) else (some (a1, false))) else (some (a1, false)))))) = some (r1, r2) := h
 clear h
 by_cases c4 : a1 = a0_0
 ·rw [if_pos c4] at H
  have c4b0 : (a1 == a0_0) = true := beq_iff_eq.mpr c4
  have c4b1 : (a1 != a0_0) = false := bne_eq_false_iff_eq.mpr c4
  clear c4
  simp only [Option.some.injEq, Prod.mk.injEq] at H
  obtain ⟨rfl, rfl⟩ := H
  go_enter Try.func197, Try.ntmps197
  go_wp2_with (first | ((with_reducible refine gate_dst (N := 3) rfl ?_); refine box_event ?hg (N := 3) ?hd (cs := #[.int .i64 a0_0, .int .i64 a0_1, .int .i64 a0_2, .slice A0_3 l0_3.length c0_3]) (t := 32) ?hr ?_; (case hd => rfl); (case hg => rfl); (case hr => first | (go_simp; done) | (go_simp; rfl)); intro gb394101 hg w5 hbox hb; have n0_ := Aside0.mk (below_step (by repeat (first | (with_reducible first | exact HB.out | apply below_alloc | apply pw_below_drewN | apply below_drew1) | exact HB.out)) hb); have n1_ := Aside0.mk (hbox); have n2_ := Aside0.mk ((by rw [hg]; exact (below_size (by repeat (first | (with_reducible first | exact HB.out | apply below_alloc | apply pw_below_drewN | apply below_drew1) | exact HB.out))) : w.heap.size ≤ gb394101)); have n3_ := Aside0.mk ((by rw [hg]; exact (below_size (by repeat (first | (with_reducible first | exact HB.out | apply below_alloc | apply pw_below_drewN | apply below_drew1) | exact HB.out))) : w.heap.size ≤ gb394101)); clear HB; have HB := n0_; have BK394101 := n1_; have GW394101 := n2_; have GE394101 := n3_; clear n0_ n1_ n2_ n3_; clear hb hbox hg; have hcz6_0 : w5.cell? ⟨gb394101, 0, none⟩ = some (.int .i64 a0_0) := (blk_cell BK394101.out 0).trans rfl; have hcz6_1 : w5.cell? ⟨gb394101, 1, none⟩ = some (.int .i64 a0_1) := (blk_cell BK394101.out 1).trans rfl; have hcz6_2 : w5.cell? ⟨gb394101, 2, none⟩ = some (.int .i64 a0_2) := (blk_cell BK394101.out 2).trans rfl; have hcz6_3 : w5.cell? ⟨gb394101, 3, none⟩ = some (.slice A0_3 l0_3.length c0_3) := (blk_cell BK394101.out 3).trans rfl; have hfz6_0 := blk_frozen BK394101.out 0; have hfz6_1 := blk_frozen BK394101.out 1; have hfz6_2 := blk_frozen BK394101.out 2; have hfz6_3 := blk_frozen BK394101.out 3))
  go_ret2
  exact ⟨by first | rfl | (simp [errW_none, errW_some] <;> rfl) | (simp [*, errW_none, errW_some] <;> rfl), by repeat (first | (with_reducible first | exact HB.out | apply below_alloc | apply pw_below_drewN | apply below_drew1 | refine below_set ?_ GE394101.out) | exact HB.out)⟩
 ·rw [if_neg c4] at H
  have c4b0 : (a1 == a0_0) = false := beq_eq_false_iff_ne.mpr c4
  have c4b1 : (a1 != a0_0) = true := bne_iff_ne.mpr c4
  by_cases c7 : (wrap64 (a1 + a2)) ≤ a0_0
  ·rw [if_pos c7] at H
   have c7b0 : decide ((wrap64 (a1 + a2)) ≤ a0_0) = true := decide_eq_true c7
   clear c7
   simp only [Option.some.injEq, Prod.mk.injEq] at H
   obtain ⟨rfl, rfl⟩ := H
   go_enter Try.func197, Try.ntmps197
   go_wp2_with (first | ((with_reducible refine gate_dst (N := 3) rfl ?_); refine box_event ?hg (N := 3) ?hd (cs := #[.int .i64 a0_0, .int .i64 a0_1, .int .i64 a0_2, .slice A0_3 l0_3.length c0_3]) (t := 32) ?hr ?_; (case hd => rfl); (case hg => rfl); (case hr => first | (go_simp; done) | (go_simp; rfl)); intro gb394101 hg w8 hbox hb; have n0_ := Aside0.mk (below_step (by repeat (first | (with_reducible first | exact HB.out | apply below_alloc | apply pw_below_drewN | apply below_drew1) | exact HB.out)) hb); have n1_ := Aside0.mk (hbox); have n2_ := Aside0.mk ((by rw [hg]; exact (below_size (by repeat (first | (with_reducible first | exact HB.out | apply below_alloc | apply pw_below_drewN | apply below_drew1) | exact HB.out))) : w.heap.size ≤ gb394101)); have n3_ := Aside0.mk ((by rw [hg]; exact (below_size (by repeat (first | (with_reducible first | exact HB.out | apply below_alloc | apply pw_below_drewN | apply below_drew1) | exact HB.out))) : w.heap.size ≤ gb394101)); clear HB; have HB := n0_; have BK394101 := n1_; have GW394101 := n2_; have GE394101 := n3_; clear n0_ n1_ n2_ n3_; clear hb hbox hg; have hcz9_0 : w8.cell? ⟨gb394101, 0, none⟩ = some (.int .i64 a0_0) := (blk_cell BK394101.out 0).trans rfl; have hcz9_1 : w8.cell? ⟨gb394101, 1, none⟩ = some (.int .i64 a0_1) := (blk_cell BK394101.out 1).trans rfl; have hcz9_2 : w8.cell? ⟨gb394101, 2, none⟩ = some (.int .i64 a0_2) := (blk_cell BK394101.out 2).trans rfl; have hcz9_3 : w8.cell? ⟨gb394101, 3, none⟩ = some (.slice A0_3 l0_3.length c0_3) := (blk_cell BK394101.out 3).trans rfl; have hfz9_0 := blk_frozen BK394101.out 0; have hfz9_1 := blk_frozen BK394101.out 1; have hfz9_2 := blk_frozen BK394101.out 2; have hfz9_3 := blk_frozen BK394101.out 3))
   go_ret2
   exact ⟨by first | rfl | (simp [errW_none, errW_some] <;> rfl) | (simp [*, errW_none, errW_some] <;> rfl), by repeat (first | (with_reducible first | exact HB.out | apply below_alloc | apply pw_below_drewN | apply below_drew1 | refine below_set ?_ GE394101.out) | exact HB.out)⟩
  ·rw [if_neg c7] at H
   have c7b0 : decide ((wrap64 (a1 + a2)) ≤ a0_0) = false := decide_eq_false c7
   clear c7
   by_cases c10 : a0_2 = 1
   ·rw [if_pos c10] at H
    have c10b0 : (a0_2 == 1) = true := beq_iff_eq.mpr c10
    have c10b1 : (a0_2 != 1) = false := bne_eq_false_iff_eq.mpr c10
    clear c10
    simp only [Option.some.injEq, Prod.mk.injEq] at H
    obtain ⟨rfl, rfl⟩ := H
    go_enter Try.func197, Try.ntmps197
    go_wp2_with (first | ((with_reducible refine gate_dst (N := 3) rfl ?_); refine box_event ?hg (N := 3) ?hd (cs := #[.int .i64 a0_0, .int .i64 a0_1, .int .i64 a0_2, .slice A0_3 l0_3.length c0_3]) (t := 32) ?hr ?_; (case hd => rfl); (case hg => rfl); (case hr => first | (go_simp; done) | (go_simp; rfl)); intro gb394101 hg w11 hbox hb; have n0_ := Aside0.mk (below_step (by repeat (first | (with_reducible first | exact HB.out | apply below_alloc | apply pw_below_drewN | apply below_drew1) | exact HB.out)) hb); have n1_ := Aside0.mk (hbox); have n2_ := Aside0.mk ((by rw [hg]; exact (below_size (by repeat (first | (with_reducible first | exact HB.out | apply below_alloc | apply pw_below_drewN | apply below_drew1) | exact HB.out))) : w.heap.size ≤ gb394101)); have n3_ := Aside0.mk ((by rw [hg]; exact (below_size (by repeat (first | (with_reducible first | exact HB.out | apply below_alloc | apply pw_below_drewN | apply below_drew1) | exact HB.out))) : w.heap.size ≤ gb394101)); clear HB; have HB := n0_; have BK394101 := n1_; have GW394101 := n2_; have GE394101 := n3_; clear n0_ n1_ n2_ n3_; clear hb hbox hg; have hcz12_0 : w11.cell? ⟨gb394101, 0, none⟩ = some (.int .i64 a0_0) := (blk_cell BK394101.out 0).trans rfl; have hcz12_1 : w11.cell? ⟨gb394101, 1, none⟩ = some (.int .i64 a0_1) := (blk_cell BK394101.out 1).trans rfl; have hcz12_2 : w11.cell? ⟨gb394101, 2, none⟩ = some (.int .i64 a0_2) := (blk_cell BK394101.out 2).trans rfl; have hcz12_3 : w11.cell? ⟨gb394101, 3, none⟩ = some (.slice A0_3 l0_3.length c0_3) := (blk_cell BK394101.out 3).trans rfl; have hfz12_0 := blk_frozen BK394101.out 0; have hfz12_1 := blk_frozen BK394101.out 1; have hfz12_2 := blk_frozen BK394101.out 2; have hfz12_3 := blk_frozen BK394101.out 3))
    go_ret2
    exact ⟨by first | rfl | (simp [errW_none, errW_some] <;> rfl) | (simp [*, errW_none, errW_some] <;> rfl), by repeat (first | (with_reducible first | exact HB.out | apply below_alloc | apply pw_below_drewN | apply below_drew1 | refine below_set ?_ GE394101.out) | exact HB.out)⟩
   ·rw [if_neg c10] at H
    have c10b0 : (a0_2 == 1) = false := beq_eq_false_iff_ne.mpr c10
    have c10b1 : (a0_2 != 1) = true := bne_iff_ne.mpr c10
    by_cases c13 : a0_2 = 2
    ·rw [if_pos c13] at H
     have c13b0 : (a0_2 == 2) = true := beq_iff_eq.mpr c13
     have c13b1 : (a0_2 != 2) = false := bne_eq_false_iff_eq.mpr c13
     clear c13
     by_cases c14 : (wrap64 ((wrap64 (2 * a0_0)) - (wrap64 (a1 + a2)))) ≥ 0
     ·rw [if_pos c14] at H
      have c14b0 : decide (0 ≤ (wrap64 ((wrap64 (2 * a0_0)) - (wrap64 (a1 + a2))))) = true := decide_eq_true c14
      clear c14
      simp only [Option.some.injEq, Prod.mk.injEq] at H
      obtain ⟨rfl, rfl⟩ := H
      go_enter Try.func197, Try.ntmps197
      go_wp2_with (first | ((with_reducible refine gate_dst (N := 3) rfl ?_); refine box_event ?hg (N := 3) ?hd (cs := #[.int .i64 a0_0, .int .i64 a0_1, .int .i64 a0_2, .slice A0_3 l0_3.length c0_3]) (t := 32) ?hr ?_; (case hd => rfl); (case hg => rfl); (case hr => first | (go_simp; done) | (go_simp; rfl)); intro gb394101 hg w15 hbox hb; have n0_ := Aside0.mk (below_step (by repeat (first | (with_reducible first | exact HB.out | apply below_alloc | apply pw_below_drewN | apply below_drew1) | exact HB.out)) hb); have n1_ := Aside0.mk (hbox); have n2_ := Aside0.mk ((by rw [hg]; exact (below_size (by repeat (first | (with_reducible first | exact HB.out | apply below_alloc | apply pw_below_drewN | apply below_drew1) | exact HB.out))) : w.heap.size ≤ gb394101)); have n3_ := Aside0.mk ((by rw [hg]; exact (below_size (by repeat (first | (with_reducible first | exact HB.out | apply below_alloc | apply pw_below_drewN | apply below_drew1) | exact HB.out))) : w.heap.size ≤ gb394101)); clear HB; have HB := n0_; have BK394101 := n1_; have GW394101 := n2_; have GE394101 := n3_; clear n0_ n1_ n2_ n3_; clear hb hbox hg; have hcz16_0 : w15.cell? ⟨gb394101, 0, none⟩ = some (.int .i64 a0_0) := (blk_cell BK394101.out 0).trans rfl; have hcz16_1 : w15.cell? ⟨gb394101, 1, none⟩ = some (.int .i64 a0_1) := (blk_cell BK394101.out 1).trans rfl; have hcz16_2 : w15.cell? ⟨gb394101, 2, none⟩ = some (.int .i64 a0_2) := (blk_cell BK394101.out 2).trans rfl; have hcz16_3 : w15.cell? ⟨gb394101, 3, none⟩ = some (.slice A0_3 l0_3.length c0_3) := (blk_cell BK394101.out 3).trans rfl; have hfz16_0 := blk_frozen BK394101.out 0; have hfz16_1 := blk_frozen BK394101.out 1; have hfz16_2 := blk_frozen BK394101.out 2; have hfz16_3 := blk_frozen BK394101.out 3))
      go_ret2
      exact ⟨by first | rfl | (simp [errW_none, errW_some] <;> rfl) | (simp [*, errW_none, errW_some] <;> rfl), by repeat (first | (with_reducible first | exact HB.out | apply below_alloc | apply pw_below_drewN | apply below_drew1 | refine below_set ?_ GE394101.out) | exact HB.out)⟩
     ·rw [if_neg c14] at H
      have c14b0 : decide (0 ≤ (wrap64 ((wrap64 (2 * a0_0)) - (wrap64 (a1 + a2))))) = false := decide_eq_false c14
      clear c14
      simp only [Option.some.injEq, Prod.mk.injEq] at H
      obtain ⟨rfl, rfl⟩ := H
      go_enter Try.func197, Try.ntmps197
      go_wp2_with (first | ((with_reducible refine gate_dst (N := 3) rfl ?_); refine box_event ?hg (N := 3) ?hd (cs := #[.int .i64 a0_0, .int .i64 a0_1, .int .i64 a0_2, .slice A0_3 l0_3.length c0_3]) (t := 32) ?hr ?_; (case hd => rfl); (case hg => rfl); (case hr => first | (go_simp; done) | (go_simp; rfl)); intro gb394101 hg w17 hbox hb; have n0_ := Aside0.mk (below_step (by repeat (first | (with_reducible first | exact HB.out | apply below_alloc | apply pw_below_drewN | apply below_drew1) | exact HB.out)) hb); have n1_ := Aside0.mk (hbox); have n2_ := Aside0.mk ((by rw [hg]; exact (below_size (by repeat (first | (with_reducible first | exact HB.out | apply below_alloc | apply pw_below_drewN | apply below_drew1) | exact HB.out))) : w.heap.size ≤ gb394101)); have n3_ := Aside0.mk ((by rw [hg]; exact (below_size (by repeat (first | (with_reducible first | exact HB.out | apply below_alloc | apply pw_below_drewN | apply below_drew1) | exact HB.out))) : w.heap.size ≤ gb394101)); clear HB; have HB := n0_; have BK394101 := n1_; have GW394101 := n2_; have GE394101 := n3_; clear n0_ n1_ n2_ n3_; clear hb hbox hg; have hcz18_0 : w17.cell? ⟨gb394101, 0, none⟩ = some (.int .i64 a0_0) := (blk_cell BK394101.out 0).trans rfl; have hcz18_1 : w17.cell? ⟨gb394101, 1, none⟩ = some (.int .i64 a0_1) := (blk_cell BK394101.out 1).trans rfl; have hcz18_2 : w17.cell? ⟨gb394101, 2, none⟩ = some (.int .i64 a0_2) := (blk_cell BK394101.out 2).trans rfl; have hcz18_3 : w17.cell? ⟨gb394101, 3, none⟩ = some (.slice A0_3 l0_3.length c0_3) := (blk_cell BK394101.out 3).trans rfl; have hfz18_0 := blk_frozen BK394101.out 0; have hfz18_1 := blk_frozen BK394101.out 1; have hfz18_2 := blk_frozen BK394101.out 2; have hfz18_3 := blk_frozen BK394101.out 3))
      go_ret2
      exact ⟨by first | rfl | (simp [errW_none, errW_some] <;> rfl) | (simp [*, errW_none, errW_some] <;> rfl), by repeat (first | (with_reducible first | exact HB.out | apply below_alloc | apply pw_below_drewN | apply below_drew1 | refine below_set ?_ GE394101.out) | exact HB.out)⟩
    ·rw [if_neg c13] at H
     have c13b0 : (a0_2 == 2) = false := beq_eq_false_iff_ne.mpr c13
     have c13b1 : (a0_2 != 2) = true := bne_iff_ne.mpr c13
     simp only [Option.some.injEq, Prod.mk.injEq] at H
     obtain ⟨rfl, rfl⟩ := H
     go_enter Try.func197, Try.ntmps197
     go_wp2_with (first | ((with_reducible refine gate_dst (N := 3) rfl ?_); refine box_event ?hg (N := 3) ?hd (cs := #[.int .i64 a0_0, .int .i64 a0_1, .int .i64 a0_2, .slice A0_3 l0_3.length c0_3]) (t := 32) ?hr ?_; (case hd => rfl); (case hg => rfl); (case hr => first | (go_simp; done) | (go_simp; rfl)); intro gb394101 hg w19 hbox hb; have n0_ := Aside0.mk (below_step (by repeat (first | (with_reducible first | exact HB.out | apply below_alloc | apply pw_below_drewN | apply below_drew1) | exact HB.out)) hb); have n1_ := Aside0.mk (hbox); have n2_ := Aside0.mk ((by rw [hg]; exact (below_size (by repeat (first | (with_reducible first | exact HB.out | apply below_alloc | apply pw_below_drewN | apply below_drew1) | exact HB.out))) : w.heap.size ≤ gb394101)); have n3_ := Aside0.mk ((by rw [hg]; exact (below_size (by repeat (first | (with_reducible first | exact HB.out | apply below_alloc | apply pw_below_drewN | apply below_drew1) | exact HB.out))) : w.heap.size ≤ gb394101)); clear HB; have HB := n0_; have BK394101 := n1_; have GW394101 := n2_; have GE394101 := n3_; clear n0_ n1_ n2_ n3_; clear hb hbox hg; have hcz20_0 : w19.cell? ⟨gb394101, 0, none⟩ = some (.int .i64 a0_0) := (blk_cell BK394101.out 0).trans rfl; have hcz20_1 : w19.cell? ⟨gb394101, 1, none⟩ = some (.int .i64 a0_1) := (blk_cell BK394101.out 1).trans rfl; have hcz20_2 : w19.cell? ⟨gb394101, 2, none⟩ = some (.int .i64 a0_2) := (blk_cell BK394101.out 2).trans rfl; have hcz20_3 : w19.cell? ⟨gb394101, 3, none⟩ = some (.slice A0_3 l0_3.length c0_3) := (blk_cell BK394101.out 3).trans rfl; have hfz20_0 := blk_frozen BK394101.out 0; have hfz20_1 := blk_frozen BK394101.out 1; have hfz20_2 := blk_frozen BK394101.out 2; have hfz20_3 := blk_frozen BK394101.out 3))
     go_ret2
     exact ⟨by first | rfl | (simp [errW_none, errW_some] <;> rfl) | (simp [*, errW_none, errW_some] <;> rfl), by repeat (first | (with_reducible first | exact HB.out | apply below_alloc | apply pw_below_drewN | apply below_drew1 | refine below_set ?_ GE394101.out) | exact HB.out)⟩

end

section
/-! ### impl_Board_throw: function 138 -/
def impl_Board_throw.f (k : Nat) (a0_0 : Int) (a0_1 : Int) (a0_2 : Int) (l0_3 : List (S27)) (a1 : Int) (a2 : Int) : Option (Int) := (impl_Board_landing.f a0_0 a0_1 a0_2 l0_3 a1 a2).bind fun bt276102 => (if bt276102.2 = true then ((impl_Board_begins.f k a0_0 a0_1 a0_2 l0_3 bt276102.1).bind fun bt276104 => (some bt276104.1)) else (some a1))
set_option maxHeartbeats 8000000 in
set_option maxRecDepth 100000 in
theorem impl_Board_throw.calls (k : Nat) (a0_0 : Int) (a0_1 : Int) (a0_2 : Int) (A0_3 : Option Addr) (c0_3 : Nat) (l0_3 : List (S27)) (a1 : Int) (a2 : Int) (r : Int) (w : World) (hr0_3 : Kd.C k27 w A0_3 l0_3.length l0_3) (hc0_3 : l0_3.length ≤ c0_3) (h : impl_Board_throw.f k a0_0 a0_1 a0_2 l0_3 a1 a2 = some r) :
  Calls Try.prog 138 #[.agg #[.int .i64 a0_0, .int .i64 a0_1, .int .i64 a0_2, .slice A0_3 l0_3.length c0_3], .int .i64 a1, .int .i64 a2] w fun e w' => e = .returned (.int .i64 r) ∧ Below w.heap.size w w' := by
 have hu32 := Try.underlying32
 have HR0_3 := Aside0.mk hr0_3
 have HC0_3 := Aside0.mk hc0_3
 clear hr0_3 hc0_3
 have HB := Aside0.mk (Below.refl w.heap.size w)
 have H : ((impl_Board_landing.f a0_0 a0_1 a0_2 l0_3 a1 a2).bind fun bt276102 => (if bt276102.2 = true then ((impl_Board_begins.f k a0_0 a0_1 a0_2 l0_3 bt276102.1).bind fun bt276104 => (some bt276104.1)) else (some a1))) = some r := h
 clear h
 replace H := Option.bind_eq_some_iff.mp H
 obtain ⟨⟨t276102, t276103⟩, A40, H⟩ := H
 replace H : (if t276103 = true then ((impl_Board_begins.f k a0_0 a0_1 a0_2 l0_3 t276102).bind fun bt276104 => (some bt276104.1)) else (some a1)) = some r := H
 have A4 := Aside0.mk A40
 clear A40
 by_cases c5 : t276103 = true
 ·subst c5
  have H1 : ((impl_Board_begins.f k a0_0 a0_1 a0_2 l0_3 t276102).bind fun bt276104 => (some bt276104.1)) = some r := by rw [if_pos rfl] at H; exact H
  clear H
  have H := H1
  clear H1
  replace H := Option.bind_eq_some_iff.mp H
  obtain ⟨⟨t276104, t276105⟩, A60, H⟩ := H
  replace H : (some t276104) = some r := H
  have A6 := Aside0.mk A60
  clear A60
  obtain rfl := Option.some.inj H
  go_enter Try.func138, Try.ntmps138
  go_wp2_with (first | ((with_reducible refine gate_dst (N := 3) rfl ?_); refine box_event ?hg (N := 3) ?hd (cs := #[.int .i64 a0_0, .int .i64 a0_1, .int .i64 a0_2, .slice A0_3 l0_3.length c0_3]) (t := 32) ?hr ?_; (case hd => rfl); (case hg => rfl); (case hr => first | (go_simp; done) | (go_simp; rfl)); intro gb276101 hg w7 hbox hb; have n0_ := Aside0.mk (below_step (by repeat (first | (with_reducible first | exact HB.out | apply below_alloc | apply pw_below_drewN | apply below_drew1) | exact HB.out)) hb); have n1_ := Aside0.mk (hbox); have n2_ := Aside0.mk ((by rw [hg]; exact (below_size (by repeat (first | (with_reducible first | exact HB.out | apply below_alloc | apply pw_below_drewN | apply below_drew1) | exact HB.out))) : w.heap.size ≤ gb276101)); have n3_ := Aside0.mk ((by rw [hg]; exact (below_size (by repeat (first | (with_reducible first | exact HB.out | apply below_alloc | apply pw_below_drewN | apply below_drew1) | exact HB.out))) : w.heap.size ≤ gb276101)); clear HB; have HB := n0_; have BK276101 := n1_; have GW276101 := n2_; have GE276101 := n3_; clear n0_ n1_ n2_ n3_; clear hb hbox hg; have hcz8_0 : w7.cell? ⟨gb276101, 0, none⟩ = some (.int .i64 a0_0) := (blk_cell BK276101.out 0).trans rfl; have hcz8_1 : w7.cell? ⟨gb276101, 1, none⟩ = some (.int .i64 a0_1) := (blk_cell BK276101.out 1).trans rfl; have hcz8_2 : w7.cell? ⟨gb276101, 2, none⟩ = some (.int .i64 a0_2) := (blk_cell BK276101.out 2).trans rfl; have hcz8_3 : w7.cell? ⟨gb276101, 3, none⟩ = some (.slice A0_3 l0_3.length c0_3) := (blk_cell BK276101.out 3).trans rfl; have hfz8_0 := blk_frozen BK276101.out 0; have hfz8_1 := blk_frozen BK276101.out 1; have hfz8_2 := blk_frozen BK276101.out 2; have hfz8_3 := blk_frozen BK276101.out 3) | ((with_reducible refine gate_callee (f := 197) rfl ?_); refine goesL_ (some 13) rfl rfl Try.func197 (by kernel_rfl) rfl #[.agg #[.int .i64 a0_0, .int .i64 a0_1, .int .i64 a0_2, .slice A0_3 l0_3.length c0_3], .int .i64 a1, .int .i64 a2] rfl (by (try simp only [List.map_toArray, List.map_cons, List.map_nil]); first | done | rfl | (simp only [List.length_drop, List.length_take]; rfl)) ?_; (with_reducible refine (impl_Board_landing.calls a0_0 a0_1 a0_2 _ _ l0_3 a1 a2 t276102 true _ ?side1 ?side2 A4.out).mono ?_); (case side1 => repeat (first | exact (Kd.C_below HR0_3.out HB.out) | (with_reducible refine Kd.C_alloc ?_ _) | (with_reducible refine Kd.C_drewN ?_ _) | (with_reducible refine Kd.C_drew ?_))); (case side2 => exact HC0_3.out); rintro e w9 ⟨rfl, hb⟩; refine ⟨_, rfl, ?_⟩; have n0_ := Aside0.mk (blk_below (g := gb276101) (o := .cells #[.int .i64 a0_0, .int .i64 a0_1, .int .i64 a0_2, .slice A0_3 l0_3.length c0_3] 32 (0, 0)) (by (with_reducible repeat (first | refine blk_drewN ?_ _ | refine blk_drew ?_ | refine blk_alloc ?_ _)); exact BK276101.out) hb); have n1_ := Aside0.mk (below_step (by repeat (first | (with_reducible first | exact HB.out | apply below_alloc | apply pw_below_drewN | apply below_drew1 | refine below_set ?_ GE276101.out) | exact HB.out)) hb); clear BK276101; clear HB; have BK276101 := n0_; have HB := n1_; clear n0_ n1_; (try clear hb); (try clear hb2); (try clear hk); (try clear hi); have hcz10_0 : w9.cell? ⟨gb276101, 0, none⟩ = some (.int .i64 a0_0) := (blk_cell BK276101.out 0).trans rfl; have hcz10_1 : w9.cell? ⟨gb276101, 1, none⟩ = some (.int .i64 a0_1) := (blk_cell BK276101.out 1).trans rfl; have hcz10_2 : w9.cell? ⟨gb276101, 2, none⟩ = some (.int .i64 a0_2) := (blk_cell BK276101.out 2).trans rfl; have hcz10_3 : w9.cell? ⟨gb276101, 3, none⟩ = some (.slice A0_3 l0_3.length c0_3) := (blk_cell BK276101.out 3).trans rfl; have hfz10_0 := blk_frozen BK276101.out 0; have hfz10_1 := blk_frozen BK276101.out 1; have hfz10_2 := blk_frozen BK276101.out 2; have hfz10_3 := blk_frozen BK276101.out 3) | ((with_reducible refine gate_callee (f := 132) rfl ?_); refine goesL_ (some 22) rfl rfl Try.func132 (by kernel_rfl) rfl #[.agg #[.int .i64 a0_0, .int .i64 a0_1, .int .i64 a0_2, .slice A0_3 l0_3.length c0_3], .int .i64 t276102] rfl (by (try simp only [List.map_toArray, List.map_cons, List.map_nil]); first | done | rfl | (simp only [List.length_drop, List.length_take]; rfl)) ?_; (with_reducible refine (impl_Board_begins.calls k a0_0 a0_1 a0_2 _ _ l0_3 t276102 t276104 t276105 _ ?side1 ?side2 A6.out).mono ?_); (case side1 => repeat (first | exact (Kd.C_below HR0_3.out HB.out) | (with_reducible refine Kd.C_alloc ?_ _) | (with_reducible refine Kd.C_drewN ?_ _) | (with_reducible refine Kd.C_drew ?_))); (case side2 => exact HC0_3.out); rintro e w11 ⟨rfl, hb⟩; refine ⟨_, rfl, ?_⟩; have n0_ := Aside0.mk (blk_below (g := gb276101) (o := .cells #[.int .i64 a0_0, .int .i64 a0_1, .int .i64 a0_2, .slice A0_3 l0_3.length c0_3] 32 (0, 0)) (by (with_reducible repeat (first | refine blk_drewN ?_ _ | refine blk_drew ?_ | refine blk_alloc ?_ _)); exact BK276101.out) hb); have n1_ := Aside0.mk (below_step (by repeat (first | (with_reducible first | exact HB.out | apply below_alloc | apply pw_below_drewN | apply below_drew1 | refine below_set ?_ GE276101.out) | exact HB.out)) hb); clear BK276101; clear HB; have BK276101 := n0_; have HB := n1_; clear n0_ n1_; (try clear hb); (try clear hb2); (try clear hk); (try clear hi)))
  go_ret
  exact ⟨by first | rfl | (simp [errW_none, errW_some] <;> rfl) | (simp [*, errW_none, errW_some] <;> rfl), by repeat (first | (with_reducible first | exact HB.out | apply below_alloc | apply pw_below_drewN | apply below_drew1 | refine below_set ?_ GE276101.out) | exact HB.out)⟩
 ·replace c5 := Bool.eq_false_iff.mpr c5
  subst c5
  have H1 : (some a1) = some r := by rw [if_neg (show ¬ (false = true) by decide)] at H; exact H
  clear H
  have H := H1
  clear H1
  obtain rfl := Option.some.inj H
  go_enter Try.func138, Try.ntmps138
  go_wp2_with (first | ((with_reducible refine gate_dst (N := 3) rfl ?_); refine box_event ?hg (N := 3) ?hd (cs := #[.int .i64 a0_0, .int .i64 a0_1, .int .i64 a0_2, .slice A0_3 l0_3.length c0_3]) (t := 32) ?hr ?_; (case hd => rfl); (case hg => rfl); (case hr => first | (go_simp; done) | (go_simp; rfl)); intro gb276101 hg w12 hbox hb; have n0_ := Aside0.mk (below_step (by repeat (first | (with_reducible first | exact HB.out | apply below_alloc | apply pw_below_drewN | apply below_drew1) | exact HB.out)) hb); have n1_ := Aside0.mk (hbox); have n2_ := Aside0.mk ((by rw [hg]; exact (below_size (by repeat (first | (with_reducible first | exact HB.out | apply below_alloc | apply pw_below_drewN | apply below_drew1) | exact HB.out))) : w.heap.size ≤ gb276101)); have n3_ := Aside0.mk ((by rw [hg]; exact (below_size (by repeat (first | (with_reducible first | exact HB.out | apply below_alloc | apply pw_below_drewN | apply below_drew1) | exact HB.out))) : w.heap.size ≤ gb276101)); clear HB; have HB := n0_; have BK276101 := n1_; have GW276101 := n2_; have GE276101 := n3_; clear n0_ n1_ n2_ n3_; clear hb hbox hg; have hcz13_0 : w12.cell? ⟨gb276101, 0, none⟩ = some (.int .i64 a0_0) := (blk_cell BK276101.out 0).trans rfl; have hcz13_1 : w12.cell? ⟨gb276101, 1, none⟩ = some (.int .i64 a0_1) := (blk_cell BK276101.out 1).trans rfl; have hcz13_2 : w12.cell? ⟨gb276101, 2, none⟩ = some (.int .i64 a0_2) := (blk_cell BK276101.out 2).trans rfl; have hcz13_3 : w12.cell? ⟨gb276101, 3, none⟩ = some (.slice A0_3 l0_3.length c0_3) := (blk_cell BK276101.out 3).trans rfl; have hfz13_0 := blk_frozen BK276101.out 0; have hfz13_1 := blk_frozen BK276101.out 1; have hfz13_2 := blk_frozen BK276101.out 2; have hfz13_3 := blk_frozen BK276101.out 3) | ((with_reducible refine gate_callee (f := 197) rfl ?_); refine goesL_ (some 13) rfl rfl Try.func197 (by kernel_rfl) rfl #[.agg #[.int .i64 a0_0, .int .i64 a0_1, .int .i64 a0_2, .slice A0_3 l0_3.length c0_3], .int .i64 a1, .int .i64 a2] rfl (by (try simp only [List.map_toArray, List.map_cons, List.map_nil]); first | done | rfl | (simp only [List.length_drop, List.length_take]; rfl)) ?_; (with_reducible refine (impl_Board_landing.calls a0_0 a0_1 a0_2 _ _ l0_3 a1 a2 t276102 false _ ?side1 ?side2 A4.out).mono ?_); (case side1 => repeat (first | exact (Kd.C_below HR0_3.out HB.out) | (with_reducible refine Kd.C_alloc ?_ _) | (with_reducible refine Kd.C_drewN ?_ _) | (with_reducible refine Kd.C_drew ?_))); (case side2 => exact HC0_3.out); rintro e w14 ⟨rfl, hb⟩; refine ⟨_, rfl, ?_⟩; have n0_ := Aside0.mk (blk_below (g := gb276101) (o := .cells #[.int .i64 a0_0, .int .i64 a0_1, .int .i64 a0_2, .slice A0_3 l0_3.length c0_3] 32 (0, 0)) (by (with_reducible repeat (first | refine blk_drewN ?_ _ | refine blk_drew ?_ | refine blk_alloc ?_ _)); exact BK276101.out) hb); have n1_ := Aside0.mk (below_step (by repeat (first | (with_reducible first | exact HB.out | apply below_alloc | apply pw_below_drewN | apply below_drew1 | refine below_set ?_ GE276101.out) | exact HB.out)) hb); clear BK276101; clear HB; have BK276101 := n0_; have HB := n1_; clear n0_ n1_; (try clear hb); (try clear hb2); (try clear hk); (try clear hi)))
  go_ret
  exact ⟨by first | rfl | (simp [errW_none, errW_some] <;> rfl) | (simp [*, errW_none, errW_some] <;> rfl), by repeat (first | (with_reducible first | exact HB.out | apply below_alloc | apply pw_below_drewN | apply below_drew1 | refine below_set ?_ GE276101.out) | exact HB.out)⟩

end

end Go.Proofs.Ytkobjjadojpjfaa.Pr
