-- A text of the machine side, written by wip/gen.py of this repo out of the translation. Not trusted: Lean checks it.
import Derived.Test.YtkobjjadojpjfaaF0
import Derived.Test.YtkobjjadojpjfaaFImplBoardFar
import Derived.Test.YtkobjjadojpjfaaFImplBoardReached
namespace Go.Proofs.Ytkobjjadojpjfaa.Pr
open Go.RowKit Go.Proofs.YtkobjjadojpjfaaW.PrintWords Go.Proofs.YtkobjjadojpjfaaW.PrintLast Go.Proofs.YtkobjjadojpjfaaW.PrintMore
attribute [local go_sem] max2_int min2_int max_two min_two max_three min_three max_four min_four   -- for this text's walks alone
set_option linter.unusedVariables false
set_option linter.unusedSimpArgs false

/-! ### impl_Board_hasMean: function 170 -/
def impl_Board_hasMean.l0 : Nat → List Int → List Bool → Int → Int → Option (Bool)
 | 0, _, _, _, _ => none
 | k + 1, x5, x12, x13, x14 => if x14 < x13 then (if 0 ≤ x14 then (if x14 < (x12.length : Int) then (if rdOf false x12 x14 = true then (if x14 < (x5.length : Int) then (if (rd x5 x14) < 0 then (some false) else (impl_Board_hasMean.l0 k x5 x12 x13 (wrap64 (x14 + 1)))) else (none)) else (impl_Board_hasMean.l0 k x5 x12 x13 (wrap64 (x14 + 1)))) else (none)) else (none)) else (some true)
def impl_Board_hasMean.f (k : Nat) (a0_0 : Int) (a0_1 : Int) (a0_2 : Int) (l0_3 : List (S27)) (a1 : Int) : Option (Bool) := (impl_Board_far.f k a0_0 a0_1 a0_2 l0_3).bind fun t340102 => ((impl_Board_reached.f k a0_0 a0_1 a0_2 l0_3 a1).bind fun t340105 => (impl_Board_hasMean.l0 k t340102 t340105 (t340105.length : Int) 0))
set_option maxHeartbeats 8000000 in
set_option maxRecDepth 100000 in
theorem impl_Board_hasMean.calls (k : Nat) (a0_0 : Int) (a0_1 : Int) (a0_2 : Int) (A0_3 : Option Addr) (c0_3 : Nat) (l0_3 : List (S27)) (a1 : Int) (r : Bool) (w : World) (hr0_3 : Kd.C k27 w A0_3 l0_3.length l0_3) (hc0_3 : l0_3.length ≤ c0_3) (h : impl_Board_hasMean.f k a0_0 a0_1 a0_2 l0_3 a1 = some r) :
  Calls Try.prog 170 #[.agg #[.int .i64 a0_0, .int .i64 a0_1, .int .i64 a0_2, .slice A0_3 l0_3.length c0_3], .int .i64 a1] w fun e w' => e = .returned (.bool r) ∧ Below w.heap.size w w' := by
 have hu32 := Try.underlying32
 have HR0_3 := Aside0.mk hr0_3
 have HC0_3 := Aside0.mk hc0_3
 clear hr0_3 hc0_3
 have HB := Aside0.mk (Below.refl w.heap.size w)
 have H : ((impl_Board_far.f k a0_0 a0_1 a0_2 l0_3).bind fun t340102 => ((impl_Board_reached.f k a0_0 a0_1 a0_2 l0_3 a1).bind fun t340105 => (impl_Board_hasMean.l0 k t340102 t340105 (t340105.length : Int) 0))) = some r := h
 clear h
 replace H := Option.bind_eq_some_iff.mp H
 obtain ⟨t340102, A30, H⟩ := H
 replace H : ((impl_Board_reached.f k a0_0 a0_1 a0_2 l0_3 a1).bind fun t340105 => (impl_Board_hasMean.l0 k t340102 t340105 (t340105.length : Int) 0)) = some r := H
 have A3 := Aside0.mk A30
 clear A30
 replace H := Option.bind_eq_some_iff.mp H
 obtain ⟨t340105, A40, H⟩ := H
 replace H : (impl_Board_hasMean.l0 k t340102 t340105 (t340105.length : Int) 0) = some r := H
 have A4 := Aside0.mk A40
 clear A40
 have H' := Aside0.mk H
 clear H
 go_enter Try.func170, Try.ntmps170
 go_wp2_with (first | ((with_reducible refine gate_dst (N := 2) rfl ?_); refine box_event ?hg (N := 2) ?hd (cs := #[.int .i64 a0_0, .int .i64 a0_1, .int .i64 a0_2, .slice A0_3 l0_3.length c0_3]) (t := 32) ?hr ?_; (case hd => rfl); (case hg => rfl); (case hr => first | (go_simp; done) | (go_simp; rfl)); intro gb340101 hg w5 hbox hb; have n0_ := Aside0.mk (below_step (by repeat (first | (with_reducible first | exact HB.out | apply below_alloc | apply pw_below_drewN | apply below_drew1) | exact HB.out)) hb); have n1_ := Aside0.mk (hbox); have n2_ := Aside0.mk ((by rw [hg]; exact (below_size (by repeat (first | (with_reducible first | exact HB.out | apply below_alloc | apply pw_below_drewN | apply below_drew1) | exact HB.out))) : w.heap.size ≤ gb340101)); have n3_ := Aside0.mk ((by rw [hg]; exact (below_size (by repeat (first | (with_reducible first | exact HB.out | apply below_alloc | apply pw_below_drewN | apply below_drew1) | exact HB.out))) : w.heap.size ≤ gb340101)); clear HB; have HB := n0_; have BK340101 := n1_; have GW340101 := n2_; have GE340101 := n3_; clear n0_ n1_ n2_ n3_; clear hb hbox hg; have hcz6_0 : w5.cell? ⟨gb340101, 0, none⟩ = some (.int .i64 a0_0) := (blk_cell BK340101.out 0).trans rfl; have hcz6_1 : w5.cell? ⟨gb340101, 1, none⟩ = some (.int .i64 a0_1) := (blk_cell BK340101.out 1).trans rfl; have hcz6_2 : w5.cell? ⟨gb340101, 2, none⟩ = some (.int .i64 a0_2) := (blk_cell BK340101.out 2).trans rfl; have hcz6_3 : w5.cell? ⟨gb340101, 3, none⟩ = some (.slice A0_3 l0_3.length c0_3) := (blk_cell BK340101.out 3).trans rfl; have hfz6_0 := blk_frozen BK340101.out 0; have hfz6_1 := blk_frozen BK340101.out 1; have hfz6_2 := blk_frozen BK340101.out 2; have hfz6_3 := blk_frozen BK340101.out 3) | ((with_reducible refine gate_callee (f := 130) rfl ?_); refine goesL_ (some 9) rfl rfl Try.func130 (by kernel_rfl) rfl #[.agg #[.int .i64 a0_0, .int .i64 a0_1, .int .i64 a0_2, .slice A0_3 l0_3.length c0_3]] rfl (by (try simp only [List.map_toArray, List.map_cons, List.map_nil]); first | done | rfl | (simp only [List.length_drop, List.length_take]; rfl)) ?_; (with_reducible refine (impl_Board_far.calls k a0_0 a0_1 a0_2 _ _ l0_3 t340102 _ ?side1 ?side2 A3.out).mono ?_); (case side1 => repeat (first | exact (Kd.C_below HR0_3.out HB.out) | (with_reducible refine Kd.C_alloc ?_ _) | (with_reducible refine Kd.C_drewN ?_ _) | (with_reducible refine Kd.C_drew ?_))); (case side2 => exact HC0_3.out); rintro e w7 ⟨v340103, rfl, ho0, hb⟩; refine ⟨_, rfl, ?_⟩; have n0_ := Aside0.mk (Kd.R_lower ho0 (below_size (by repeat (first | (with_reducible first | exact HB.out | apply below_alloc | apply pw_below_drewN | apply below_drew1 | refine below_set ?_ GE340101.out) | exact HB.out)))); have n1_ := Aside0.mk (blk_below (g := gb340101) (o := .cells #[.int .i64 a0_0, .int .i64 a0_1, .int .i64 a0_2, .slice A0_3 l0_3.length c0_3] 32 (0, 0)) (by (with_reducible repeat (first | refine blk_drewN ?_ _ | refine blk_drew ?_ | refine blk_alloc ?_ _)); exact BK340101.out) hb); have n2_ := Aside0.mk (below_step (by repeat (first | (with_reducible first | exact HB.out | apply below_alloc | apply pw_below_drewN | apply below_drew1 | refine below_set ?_ GE340101.out) | exact HB.out)) hb); clear BK340101; clear HB; have HO340104 := n0_; have BK340101 := n1_; have HB := n2_; clear n0_ n1_ n2_; (try clear hb); (try clear hb2); (try clear hk); (try clear hi); (try clear ho0); have hcz8_0 : w7.cell? ⟨gb340101, 0, none⟩ = some (.int .i64 a0_0) := (blk_cell BK340101.out 0).trans rfl; have hcz8_1 : w7.cell? ⟨gb340101, 1, none⟩ = some (.int .i64 a0_1) := (blk_cell BK340101.out 1).trans rfl; have hcz8_2 : w7.cell? ⟨gb340101, 2, none⟩ = some (.int .i64 a0_2) := (blk_cell BK340101.out 2).trans rfl; have hcz8_3 : w7.cell? ⟨gb340101, 3, none⟩ = some (.slice A0_3 l0_3.length c0_3) := (blk_cell BK340101.out 3).trans rfl; have hfz8_0 := blk_frozen BK340101.out 0; have hfz8_1 := blk_frozen BK340101.out 1; have hfz8_2 := blk_frozen BK340101.out 2; have hfz8_3 := blk_frozen BK340101.out 3) | ((with_reducible refine gate_callee (f := 162) rfl ?_); refine goesL_ (some 12) rfl rfl Try.func162 (by kernel_rfl) rfl #[.agg #[.int .i64 a0_0, .int .i64 a0_1, .int .i64 a0_2, .slice A0_3 l0_3.length c0_3], .int .i64 a1] rfl (by (try simp only [List.map_toArray, List.map_cons, List.map_nil]); first | done | rfl | (simp only [List.length_drop, List.length_take]; rfl)) ?_; (with_reducible refine (impl_Board_reached.calls k a0_0 a0_1 a0_2 _ _ l0_3 a1 t340105 _ ?side1 ?side2 A4.out).mono ?_); (case side1 => repeat (first | exact (Kd.C_below HR0_3.out HB.out) | (with_reducible refine Kd.C_alloc ?_ _) | (with_reducible refine Kd.C_drewN ?_ _) | (with_reducible refine Kd.C_drew ?_))); (case side2 => exact HC0_3.out); rintro e w9 ⟨v340106, rfl, ho0, hb⟩; refine ⟨_, rfl, ?_⟩; have n0_ := Aside0.mk (Kd.R_below (by (with_reducible repeat (first | apply Kd.R_alloc | apply Kd.R_drewN | apply Kd.R_drew)); exact HO340104.out) hb); have n1_ := Aside0.mk (Kd.R_lower ho0 (below_size (by repeat (first | (with_reducible first | exact HB.out | apply below_alloc | apply pw_below_drewN | apply below_drew1 | refine below_set ?_ GE340101.out) | exact HB.out)))); have n2_ := Aside0.mk (blk_below (g := gb340101) (o := .cells #[.int .i64 a0_0, .int .i64 a0_1, .int .i64 a0_2, .slice A0_3 l0_3.length c0_3] 32 (0, 0)) (by (with_reducible repeat (first | refine blk_drewN ?_ _ | refine blk_drew ?_ | refine blk_alloc ?_ _)); exact BK340101.out) hb); have n3_ := Aside0.mk (below_step (by repeat (first | (with_reducible first | exact HB.out | apply below_alloc | apply pw_below_drewN | apply below_drew1 | refine below_set ?_ GE340101.out) | exact HB.out)) hb); clear HO340104; clear BK340101; clear HB; have HO340104 := n0_; have HO340107 := n1_; have BK340101 := n2_; have HB := n3_; clear n0_ n1_ n2_ n3_; (try clear hb); (try clear hb2); (try clear hk); (try clear hi); (try clear ho0); obtain ⟨Ao10, co10, eo10⟩ := Kd.R_slice HO340107.out; subst eo10))
 go_loopg [14] k (fun kq v14 w' => ∃ (x14_1 : Int), v14 = .int .i64 x14_1 ∧ Aside0 (impl_Board_hasMean.l0 kq t340102 t340105 (t340105.length : Int) x14_1 = some r) ∧ Aside0 (kq ≤ k) ∧ Aside0 (Kd.R (Kd.int .i64) 3 w' w.heap.size (fun _ => True) v340103 t340102) ∧ Aside0 (Kd.R Kd.bool 4 w' w.heap.size (fun _ => True) (.slice Ao10 t340105.length co10) t340105) ∧ Aside0 (w'.heap[gb340101]? = some (.cells #[.int .i64 a0_0, .int .i64 a0_1, .int .i64 a0_2, (.slice A0_3 l0_3.length c0_3)] 32 (0, 0))) ∧ Aside0 (Below w.heap.size w w'))
 case atStart => exact ⟨(0), (by first | rfl | (simp; done) | (simp [*]; done)), H', ⟨Nat.le_refl _⟩, ⟨by (with_reducible repeat (first | apply Kd.R_alloc | apply Kd.R_drewN | apply Kd.R_drew)); exact HO340104.out⟩, ⟨by (with_reducible repeat (first | apply Kd.R_alloc | apply Kd.R_drewN | apply Kd.R_drew)); exact HO340107.out⟩, ⟨by (with_reducible repeat (first | refine blk_drewN ?_ _ | refine blk_drew ?_ | refine blk_alloc ?_ _)); exact BK340101.out⟩, ⟨by repeat (first | (with_reducible first | exact HB.out | apply below_alloc | apply pw_below_drewN | apply below_drew1 | refine below_set ?_ GE340101.out) | exact HB.out)⟩⟩
 case round =>
  clear H'
  try clear c1
  try clear p2
  try clear hcz6_0
  try clear hcz6_1
  try clear hcz6_2
  try clear hcz6_3
  try clear hcz8_0
  try clear hcz8_1
  try clear hcz8_2
  try clear hcz8_3
  try clear hfz6_0
  try clear hfz6_1
  try clear hfz6_2
  try clear hfz6_3
  try clear hfz8_0
  try clear hfz8_1
  try clear hfz8_2
  try clear hfz8_3
  obtain ⟨x14_1, rfl, HA, HK1, HO_5, HO_12, BK340101, HB⟩ := hrel
  cases gk with
  | zero => exact absurd HA.out (by simp [impl_Board_hasMean.l0])
  | succ k1 =>
   have H := HA.out
   clear HA
   simp only [impl_Board_hasMean.l0] at H
   by_cases c11 : x14_1 < (t340105.length : Int)
   ·rw [if_pos c11] at H
    have c11b0 : decide (x14_1 < (t340105.length : Int)) = true := decide_eq_true c11
    clear c11
    by_cases c12 : 0 ≤ x14_1
    ·rw [if_pos c12] at H
     have c12b0 : decide (0 ≤ x14_1) = true := decide_eq_true c12
     clear c12
     by_cases c13 : x14_1 < (t340105.length : Int)
     ·rw [if_pos c13] at H
      have c13b0 : decide (x14_1 < (t340105.length : Int)) = true := decide_eq_true c13
      clear c13
      obtain ⟨bq14, hbq14⟩ : ∃ b_ : Bool, b_ = (rdOf false t340105 x14_1) := ⟨_, rfl⟩
      replace H : (if bq14 = true then (if x14_1 < (t340102.length : Int) then (if (rd t340102 x14_1) < 0 then (some false) else (impl_Board_hasMean.l0 k1 t340102 t340105 (t340105.length : Int) (wrap64 (x14_1 + 1)))) else (none)) else (impl_Board_hasMean.l0 k1 t340102 t340105 (t340105.length : Int) (wrap64 (x14_1 + 1)))) = some r := by rw [← hbq14] at H; exact H
      have Nbq14 := Aside0.mk hbq14
      clear hbq14
      by_cases c15 : bq14 = true
      ·subst c15
       have H1 : (if x14_1 < (t340102.length : Int) then (if (rd t340102 x14_1) < 0 then (some false) else (impl_Board_hasMean.l0 k1 t340102 t340105 (t340105.length : Int) (wrap64 (x14_1 + 1)))) else (none)) = some r := by rw [if_pos rfl] at H; exact H
       clear H
       have H := H1
       clear H1
       by_cases c16 : x14_1 < (t340102.length : Int)
       ·rw [if_pos c16] at H
        have c16b0 : decide (x14_1 < (t340102.length : Int)) = true := decide_eq_true c16
        clear c16
        by_cases c17 : (rd t340102 x14_1) < 0
        ·rw [if_pos c17] at H
         have c17b0 : decide ((rd t340102 x14_1) < 0) = true := decide_eq_true c17
         clear c17
         obtain rfl := Option.some.inj H
         have p340108 : 0 ≤ (x14_1 : Int) := of_decide_eq_true (by first | (with_reducible assumption) | assumption)
         have q340108 : x14_1 < (t340105.length : Int) := of_decide_eq_true (by first | (with_reducible assumption) | assumption)
         obtain ⟨ad340108, e340108, hx340108_0⟩ := Kd.at_bool (Kd.R_reads' HO_12.out).2.2 x14_1 p340108 q340108
         (try rw [← Nbq14.out] at hx340108_0)
         cases e340108
         replace p340108 := eq_true p340108
         replace q340108 := eq_true q340108
         obtain ⟨Ao18, co18, eo18⟩ := Kd.R_slice HO_5.out
         subst eo18
         have p340109 : 0 ≤ (x14_1 : Int) := of_decide_eq_true (by first | (with_reducible assumption) | assumption)
         have q340109 : x14_1 < (t340102.length : Int) := of_decide_eq_true (by first | (with_reducible assumption) | assumption)
         obtain ⟨ad340109, e340109, hx340109_0⟩ := Kd.at_int (Kd.R_reads' HO_5.out).2.2 x14_1 p340109 q340109
         cases e340109
         replace p340109 := eq_true p340109
         replace q340109 := eq_true q340109
         go_wp2
         go_ret
         exact ⟨by first | rfl | (simp [errW_none, errW_some] <;> rfl) | (simp [*, errW_none, errW_some] <;> rfl), by repeat (first | (with_reducible first | exact HB.out | apply below_alloc | apply pw_below_drewN | apply below_drew1 | refine below_set ?_ GE340101.out) | exact HB.out)⟩
        ·rw [if_neg c17] at H
         have c17b0 : decide ((rd t340102 x14_1) < 0) = false := decide_eq_false c17
         clear c17
         have H' := Aside0.mk H
         clear H
         have p340108 : 0 ≤ (x14_1 : Int) := of_decide_eq_true (by first | (with_reducible assumption) | assumption)
         have q340108 : x14_1 < (t340105.length : Int) := of_decide_eq_true (by first | (with_reducible assumption) | assumption)
         obtain ⟨ad340108, e340108, hx340108_0⟩ := Kd.at_bool (Kd.R_reads' HO_12.out).2.2 x14_1 p340108 q340108
         (try rw [← Nbq14.out] at hx340108_0)
         cases e340108
         replace p340108 := eq_true p340108
         replace q340108 := eq_true q340108
         obtain ⟨Ao19, co19, eo19⟩ := Kd.R_slice HO_5.out
         subst eo19
         have p340109 : 0 ≤ (x14_1 : Int) := of_decide_eq_true (by first | (with_reducible assumption) | assumption)
         have q340109 : x14_1 < (t340102.length : Int) := of_decide_eq_true (by first | (with_reducible assumption) | assumption)
         obtain ⟨ad340109, e340109, hx340109_0⟩ := Kd.at_int (Kd.R_reads' HO_5.out).2.2 x14_1 p340109 q340109
         cases e340109
         replace p340109 := eq_true p340109
         replace q340109 := eq_true q340109
         go_wp2
         go_roundg k1
         case measure => have := HK1.out; omega
         case rel => exact ⟨(wrap64 (x14_1 + 1)), (by first | rfl | (simp; done) | (simp [*]; done)), H', ⟨by have := HK1.out; omega⟩, ⟨by (with_reducible repeat (first | apply Kd.R_alloc | apply Kd.R_drewN | apply Kd.R_drew)); exact HO_5.out⟩, ⟨by (with_reducible repeat (first | apply Kd.R_alloc | apply Kd.R_drewN | apply Kd.R_drew)); exact HO_12.out⟩, ⟨by (with_reducible repeat (first | refine blk_drewN ?_ _ | refine blk_drew ?_ | refine blk_alloc ?_ _)); exact BK340101.out⟩, ⟨by repeat (first | (with_reducible first | exact HB.out | apply below_alloc | apply pw_below_drewN | apply below_drew1 | refine below_set ?_ GE340101.out) | exact HB.out)⟩⟩
       ·rw [if_neg c16] at H
        exact absurd H (by simp)
      ·replace c15 := Bool.eq_false_iff.mpr c15
       subst c15
       have H1 : (impl_Board_hasMean.l0 k1 t340102 t340105 (t340105.length : Int) (wrap64 (x14_1 + 1))) = some r := by rw [if_neg (show ¬ (false = true) by decide)] at H; exact H
       clear H
       have H := H1
       clear H1
       have H' := Aside0.mk H
       clear H
       have p340108 : 0 ≤ (x14_1 : Int) := of_decide_eq_true (by first | (with_reducible assumption) | assumption)
       have q340108 : x14_1 < (t340105.length : Int) := of_decide_eq_true (by first | (with_reducible assumption) | assumption)
       obtain ⟨ad340108, e340108, hx340108_0⟩ := Kd.at_bool (Kd.R_reads' HO_12.out).2.2 x14_1 p340108 q340108
       (try rw [← Nbq14.out] at hx340108_0)
       cases e340108
       replace p340108 := eq_true p340108
       replace q340108 := eq_true q340108
       go_wp2
       go_roundg k1
       case measure => have := HK1.out; omega
       case rel => exact ⟨(wrap64 (x14_1 + 1)), (by first | rfl | (simp; done) | (simp [*]; done)), H', ⟨by have := HK1.out; omega⟩, ⟨by (with_reducible repeat (first | apply Kd.R_alloc | apply Kd.R_drewN | apply Kd.R_drew)); exact HO_5.out⟩, ⟨by (with_reducible repeat (first | apply Kd.R_alloc | apply Kd.R_drewN | apply Kd.R_drew)); exact HO_12.out⟩, ⟨by (with_reducible repeat (first | refine blk_drewN ?_ _ | refine blk_drew ?_ | refine blk_alloc ?_ _)); exact BK340101.out⟩, ⟨by repeat (first | (with_reducible first | exact HB.out | apply below_alloc | apply pw_below_drewN | apply below_drew1 | refine below_set ?_ GE340101.out) | exact HB.out)⟩⟩
     ·rw [if_neg c13] at H
      exact absurd H (by simp)
    ·rw [if_neg c12] at H
     exact absurd H (by simp)
   ·rw [if_neg c11] at H
    have c11b0 : decide (x14_1 < (t340105.length : Int)) = false := decide_eq_false c11
    clear c11
    obtain rfl := Option.some.inj H
    go_wp2
    go_ret
    exact ⟨by first | rfl | (simp [errW_none, errW_some] <;> rfl) | (simp [*, errW_none, errW_some] <;> rfl), by repeat (first | (with_reducible first | exact HB.out | apply below_alloc | apply pw_below_drewN | apply below_drew1 | refine below_set ?_ GE340101.out) | exact HB.out)⟩

end Go.Proofs.Ytkobjjadojpjfaa.Pr
