-- A text of the machine side, written by wip/gen.py of this repo out of the translation. Not trusted: Lean checks it.
import Derived.Test.YtkobjjadojpjfaaF0
import Derived.Test.YtkobjjadojpjfaaFSpecSqFar
import Derived.Test.YtkobjjadojpjfaaFSpecSqReached
namespace Go.Proofs.Ytkobjjadojpjfaa.Pr
open Go.RowKit Go.Proofs.YtkobjjadojpjfaaW.PrintWords Go.Proofs.YtkobjjadojpjfaaW.PrintLast Go.Proofs.YtkobjjadojpjfaaW.PrintMore
attribute [local go_sem] max2_int min2_int max_two min_two max_three min_three max_four min_four   -- for this text's walks alone
set_option linter.unusedVariables false
set_option linter.unusedSimpArgs false

/-! ### spec_meHas: function 168 -/
def spec_meHas.l0 : Nat → List Int → List Bool → Int → Int → Option (Bool)
 | 0, _, _, _, _ => none
 | k + 1, x5, x12, x13, x14 => if x14 < x13 then (if 0 ≤ x14 then (if x14 < (x12.length : Int) then (if rdOf false x12 x14 = true then (if x14 < (x5.length : Int) then (if (rd x5 x14) < 0 then (some false) else (spec_meHas.l0 k x5 x12 x13 (wrap64 (x14 + 1)))) else (none)) else (spec_meHas.l0 k x5 x12 x13 (wrap64 (x14 + 1)))) else (none)) else (none)) else (some true)
def spec_meHas.f (k : Nat) (a0_0 : Int) (a0_1 : Int) (a0_2 : Int) (l0_3 : List (S27)) (a1 : Int) : Option (Bool) := (spec_sqFar.f k a0_0 a0_1 a0_2 l0_3).bind fun t336102 => ((spec_sqReached.f k a0_0 a0_1 a0_2 l0_3 a1).bind fun t336105 => (spec_meHas.l0 k t336102 t336105 (t336105.length : Int) 0))
set_option maxHeartbeats 8000000 in
set_option maxRecDepth 100000 in
theorem spec_meHas.calls (k : Nat) (a0_0 : Int) (a0_1 : Int) (a0_2 : Int) (A0_3 : Option Addr) (c0_3 : Nat) (l0_3 : List (S27)) (a1 : Int) (r : Bool) (w : World) (hr0_3 : Kd.C k27 w A0_3 l0_3.length l0_3) (hc0_3 : l0_3.length ≤ c0_3) (h : spec_meHas.f k a0_0 a0_1 a0_2 l0_3 a1 = some r) :
  Calls Try.prog 168 #[.agg #[.int .i64 a0_0, .int .i64 a0_1, .int .i64 a0_2, .slice A0_3 l0_3.length c0_3], .int .i64 a1] w fun e w' => e = .returned (.bool r) ∧ Below w.heap.size w w' := by
 have hu32 := Try.underlying32
 have HR0_3 := Aside0.mk hr0_3
 have HC0_3 := Aside0.mk hc0_3
 clear hr0_3 hc0_3
 have HB := Aside0.mk (Below.refl w.heap.size w)
 have H : ((spec_sqFar.f k a0_0 a0_1 a0_2 l0_3).bind fun t336102 => ((spec_sqReached.f k a0_0 a0_1 a0_2 l0_3 a1).bind fun t336105 => (spec_meHas.l0 k t336102 t336105 (t336105.length : Int) 0))) = some r := h
 clear h
 replace H := Option.bind_eq_some_iff.mp H
 obtain ⟨t336102, A30, H⟩ := H
 replace H : ((spec_sqReached.f k a0_0 a0_1 a0_2 l0_3 a1).bind fun t336105 => (spec_meHas.l0 k t336102 t336105 (t336105.length : Int) 0)) = some r := H
 have A3 := Aside0.mk A30
 clear A30
 replace H := Option.bind_eq_some_iff.mp H
 obtain ⟨t336105, A40, H⟩ := H
 replace H : (spec_meHas.l0 k t336102 t336105 (t336105.length : Int) 0) = some r := H
 have A4 := Aside0.mk A40
 clear A40
 have H' := Aside0.mk H
 clear H
 go_enter Try.func168, Try.ntmps168
 go_wp2_with (first | ((with_reducible refine gate_dst (N := 2) rfl ?_); refine box_event ?hg (N := 2) ?hd (cs := #[.int .i64 a0_0, .int .i64 a0_1, .int .i64 a0_2, .slice A0_3 l0_3.length c0_3]) (t := 32) ?hr ?_; (case hd => rfl); (case hg => rfl); (case hr => first | (go_simp; done) | (go_simp; rfl)); intro gb336101 hg w5 hbox hb; have n0_ := Aside0.mk (below_step (by repeat (first | (with_reducible first | exact HB.out | apply below_alloc | apply pw_below_drewN | apply below_drew1) | exact HB.out)) hb); have n1_ := Aside0.mk (hbox); have n2_ := Aside0.mk ((by rw [hg]; exact (below_size (by repeat (first | (with_reducible first | exact HB.out | apply below_alloc | apply pw_below_drewN | apply below_drew1) | exact HB.out))) : w.heap.size ≤ gb336101)); have n3_ := Aside0.mk ((by rw [hg]; exact (below_size (by repeat (first | (with_reducible first | exact HB.out | apply below_alloc | apply pw_below_drewN | apply below_drew1) | exact HB.out))) : w.heap.size ≤ gb336101)); clear HB; have HB := n0_; have BK336101 := n1_; have GW336101 := n2_; have GE336101 := n3_; clear n0_ n1_ n2_ n3_; clear hb hbox hg; have hcz6_0 : w5.cell? ⟨gb336101, 0, none⟩ = some (.int .i64 a0_0) := (blk_cell BK336101.out 0).trans rfl; have hcz6_1 : w5.cell? ⟨gb336101, 1, none⟩ = some (.int .i64 a0_1) := (blk_cell BK336101.out 1).trans rfl; have hcz6_2 : w5.cell? ⟨gb336101, 2, none⟩ = some (.int .i64 a0_2) := (blk_cell BK336101.out 2).trans rfl; have hcz6_3 : w5.cell? ⟨gb336101, 3, none⟩ = some (.slice A0_3 l0_3.length c0_3) := (blk_cell BK336101.out 3).trans rfl; have hfz6_0 := blk_frozen BK336101.out 0; have hfz6_1 := blk_frozen BK336101.out 1; have hfz6_2 := blk_frozen BK336101.out 2; have hfz6_3 := blk_frozen BK336101.out 3) | ((with_reducible refine gate_callee (f := 127) rfl ?_); refine goesL_ (some 9) rfl rfl Try.func127 (by kernel_rfl) rfl #[.agg #[.int .i64 a0_0, .int .i64 a0_1, .int .i64 a0_2, .slice A0_3 l0_3.length c0_3]] rfl (by (try simp only [List.map_toArray, List.map_cons, List.map_nil]); first | done | rfl | (simp only [List.length_drop, List.length_take]; rfl)) ?_; (with_reducible refine (spec_sqFar.calls k a0_0 a0_1 a0_2 _ _ l0_3 t336102 _ ?side1 ?side2 A3.out).mono ?_); (case side1 => repeat (first | exact (Kd.C_below HR0_3.out HB.out) | (with_reducible refine Kd.C_alloc ?_ _) | (with_reducible refine Kd.C_drewN ?_ _) | (with_reducible refine Kd.C_drew ?_))); (case side2 => exact HC0_3.out); rintro e w7 ⟨v336103, rfl, ho0, hb⟩; refine ⟨_, rfl, ?_⟩; have n0_ := Aside0.mk (Kd.R_lower ho0 (below_size (by repeat (first | (with_reducible first | exact HB.out | apply below_alloc | apply pw_below_drewN | apply below_drew1 | refine below_set ?_ GE336101.out) | exact HB.out)))); have n1_ := Aside0.mk (blk_below (g := gb336101) (o := .cells #[.int .i64 a0_0, .int .i64 a0_1, .int .i64 a0_2, .slice A0_3 l0_3.length c0_3] 32 (0, 0)) (by (with_reducible repeat (first | refine blk_drewN ?_ _ | refine blk_drew ?_ | refine blk_alloc ?_ _)); exact BK336101.out) hb); have n2_ := Aside0.mk (below_step (by repeat (first | (with_reducible first | exact HB.out | apply below_alloc | apply pw_below_drewN | apply below_drew1 | refine below_set ?_ GE336101.out) | exact HB.out)) hb); clear BK336101; clear HB; have HO336104 := n0_; have BK336101 := n1_; have HB := n2_; clear n0_ n1_ n2_; (try clear hb); (try clear hb2); (try clear hk); (try clear hi); (try clear ho0); have hcz8_0 : w7.cell? ⟨gb336101, 0, none⟩ = some (.int .i64 a0_0) := (blk_cell BK336101.out 0).trans rfl; have hcz8_1 : w7.cell? ⟨gb336101, 1, none⟩ = some (.int .i64 a0_1) := (blk_cell BK336101.out 1).trans rfl; have hcz8_2 : w7.cell? ⟨gb336101, 2, none⟩ = some (.int .i64 a0_2) := (blk_cell BK336101.out 2).trans rfl; have hcz8_3 : w7.cell? ⟨gb336101, 3, none⟩ = some (.slice A0_3 l0_3.length c0_3) := (blk_cell BK336101.out 3).trans rfl; have hfz8_0 := blk_frozen BK336101.out 0; have hfz8_1 := blk_frozen BK336101.out 1; have hfz8_2 := blk_frozen BK336101.out 2; have hfz8_3 := blk_frozen BK336101.out 3) | ((with_reducible refine gate_callee (f := 160) rfl ?_); refine goesL_ (some 12) rfl rfl Try.func160 (by kernel_rfl) rfl #[.agg #[.int .i64 a0_0, .int .i64 a0_1, .int .i64 a0_2, .slice A0_3 l0_3.length c0_3], .int .i64 a1] rfl (by (try simp only [List.map_toArray, List.map_cons, List.map_nil]); first | done | rfl | (simp only [List.length_drop, List.length_take]; rfl)) ?_; (with_reducible refine (spec_sqReached.calls k a0_0 a0_1 a0_2 _ _ l0_3 a1 t336105 _ ?side1 ?side2 A4.out).mono ?_); (case side1 => repeat (first | exact (Kd.C_below HR0_3.out HB.out) | (with_reducible refine Kd.C_alloc ?_ _) | (with_reducible refine Kd.C_drewN ?_ _) | (with_reducible refine Kd.C_drew ?_))); (case side2 => exact HC0_3.out); rintro e w9 ⟨v336106, rfl, ho0, hb⟩; refine ⟨_, rfl, ?_⟩; have n0_ := Aside0.mk (Kd.R_below (by (with_reducible repeat (first | apply Kd.R_alloc | apply Kd.R_drewN | apply Kd.R_drew)); exact HO336104.out) hb); have n1_ := Aside0.mk (Kd.R_lower ho0 (below_size (by repeat (first | (with_reducible first | exact HB.out | apply below_alloc | apply pw_below_drewN | apply below_drew1 | refine below_set ?_ GE336101.out) | exact HB.out)))); have n2_ := Aside0.mk (blk_below (g := gb336101) (o := .cells #[.int .i64 a0_0, .int .i64 a0_1, .int .i64 a0_2, .slice A0_3 l0_3.length c0_3] 32 (0, 0)) (by (with_reducible repeat (first | refine blk_drewN ?_ _ | refine blk_drew ?_ | refine blk_alloc ?_ _)); exact BK336101.out) hb); have n3_ := Aside0.mk (below_step (by repeat (first | (with_reducible first | exact HB.out | apply below_alloc | apply pw_below_drewN | apply below_drew1 | refine below_set ?_ GE336101.out) | exact HB.out)) hb); clear HO336104; clear BK336101; clear HB; have HO336104 := n0_; have HO336107 := n1_; have BK336101 := n2_; have HB := n3_; clear n0_ n1_ n2_ n3_; (try clear hb); (try clear hb2); (try clear hk); (try clear hi); (try clear ho0); obtain ⟨Ao10, co10, eo10⟩ := Kd.R_slice HO336107.out; subst eo10))
 go_loopg [14] k (fun kq v14 w' => ∃ (x14_1 : Int), v14 = .int .i64 x14_1 ∧ Aside0 (spec_meHas.l0 kq t336102 t336105 (t336105.length : Int) x14_1 = some r) ∧ Aside0 (kq ≤ k) ∧ Aside0 (Kd.R (Kd.int .i64) 3 w' w.heap.size (fun _ => True) v336103 t336102) ∧ Aside0 (Kd.R Kd.bool 4 w' w.heap.size (fun _ => True) (.slice Ao10 t336105.length co10) t336105) ∧ Aside0 (w'.heap[gb336101]? = some (.cells #[.int .i64 a0_0, .int .i64 a0_1, .int .i64 a0_2, (.slice A0_3 l0_3.length c0_3)] 32 (0, 0))) ∧ Aside0 (Below w.heap.size w w'))
 case atStart => exact ⟨(0), (by first | rfl | (simp; done) | (simp [*]; done)), H', ⟨Nat.le_refl _⟩, ⟨by (with_reducible repeat (first | apply Kd.R_alloc | apply Kd.R_drewN | apply Kd.R_drew)); exact HO336104.out⟩, ⟨by (with_reducible repeat (first | apply Kd.R_alloc | apply Kd.R_drewN | apply Kd.R_drew)); exact HO336107.out⟩, ⟨by (with_reducible repeat (first | refine blk_drewN ?_ _ | refine blk_drew ?_ | refine blk_alloc ?_ _)); exact BK336101.out⟩, ⟨by repeat (first | (with_reducible first | exact HB.out | apply below_alloc | apply pw_below_drewN | apply below_drew1 | refine below_set ?_ GE336101.out) | exact HB.out)⟩⟩
 case round =>
  clear H'
  try clear c1
  try clear p2
  try clear hcz6_0
  try clear hcz6_1
  try clear hcz6_2
  try clear hcz6_3
  try clear hcz8_0
  try clear hcz8_1
  try clear hcz8_2
  try clear hcz8_3
  try clear hfz6_0
  try clear hfz6_1
  try clear hfz6_2
  try clear hfz6_3
  try clear hfz8_0
  try clear hfz8_1
  try clear hfz8_2
  try clear hfz8_3
  obtain ⟨x14_1, rfl, HA, HK1, HO_5, HO_12, BK336101, HB⟩ := hrel
  cases gk with
  | zero => exact absurd HA.out (by simp [spec_meHas.l0])
  | succ k1 =>
   have H := HA.out
   clear HA
   simp only [spec_meHas.l0] at H
   by_cases c11 : x14_1 < (t336105.length : Int)
   ·rw [if_pos c11] at H
    have c11b0 : decide (x14_1 < (t336105.length : Int)) = true := decide_eq_true c11
    clear c11
    by_cases c12 : 0 ≤ x14_1
    ·rw [if_pos c12] at H
     have c12b0 : decide (0 ≤ x14_1) = true := decide_eq_true c12
     clear c12
     by_cases c13 : x14_1 < (t336105.length : Int)
     ·rw [if_pos c13] at H
      have c13b0 : decide (x14_1 < (t336105.length : Int)) = true := decide_eq_true c13
      clear c13
      obtain ⟨bq14, hbq14⟩ : ∃ b_ : Bool, b_ = (rdOf false t336105 x14_1) := ⟨_, rfl⟩
      replace H : (if bq14 = true then (if x14_1 < (t336102.length : Int) then (if (rd t336102 x14_1) < 0 then (some false) else (spec_meHas.l0 k1 t336102 t336105 (t336105.length : Int) (wrap64 (x14_1 + 1)))) else (none)) else (spec_meHas.l0 k1 t336102 t336105 (t336105.length : Int) (wrap64 (x14_1 + 1)))) = some r := by rw [← hbq14] at H; exact H
      have Nbq14 := Aside0.mk hbq14
      clear hbq14
      by_cases c15 : bq14 = true
      ·subst c15
       have H1 : (if x14_1 < (t336102.length : Int) then (if (rd t336102 x14_1) < 0 then (some false) else (spec_meHas.l0 k1 t336102 t336105 (t336105.length : Int) (wrap64 (x14_1 + 1)))) else (none)) = some r := by rw [if_pos rfl] at H; exact H
       clear H
       have H := H1
       clear H1
       by_cases c16 : x14_1 < (t336102.length : Int)
       ·rw [if_pos c16] at H
        have c16b0 : decide (x14_1 < (t336102.length : Int)) = true := decide_eq_true c16
        clear c16
        by_cases c17 : (rd t336102 x14_1) < 0
        ·rw [if_pos c17] at H
         have c17b0 : decide ((rd t336102 x14_1) < 0) = true := decide_eq_true c17
         clear c17
         obtain rfl := Option.some.inj H
         have p336108 : 0 ≤ (x14_1 : Int) := of_decide_eq_true (by first | (with_reducible assumption) | assumption)
         have q336108 : x14_1 < (t336105.length : Int) := of_decide_eq_true (by first | (with_reducible assumption) | assumption)
         obtain ⟨ad336108, e336108, hx336108_0⟩ := Kd.at_bool (Kd.R_reads' HO_12.out).2.2 x14_1 p336108 q336108
         (try rw [← Nbq14.out] at hx336108_0)
         cases e336108
         replace p336108 := eq_true p336108
         replace q336108 := eq_true q336108
         obtain ⟨Ao18, co18, eo18⟩ := Kd.R_slice HO_5.out
         subst eo18
         have p336109 : 0 ≤ (x14_1 : Int) := of_decide_eq_true (by first | (with_reducible assumption) | assumption)
         have q336109 : x14_1 < (t336102.length : Int) := of_decide_eq_true (by first | (with_reducible assumption) | assumption)
         obtain ⟨ad336109, e336109, hx336109_0⟩ := Kd.at_int (Kd.R_reads' HO_5.out).2.2 x14_1 p336109 q336109
         cases e336109
         replace p336109 := eq_true p336109
         replace q336109 := eq_true q336109
         go_wp2
         go_ret
         exact ⟨by first | rfl | (simp [errW_none, errW_some] <;> rfl) | (simp [*, errW_none, errW_some] <;> rfl), by repeat (first | (with_reducible first | exact HB.out | apply below_alloc | apply pw_below_drewN | apply below_drew1 | refine below_set ?_ GE336101.out) | exact HB.out)⟩
        ·rw [if_neg c17] at H
         have c17b0 : decide ((rd t336102 x14_1) < 0) = false := decide_eq_false c17
         clear c17
         have H' := Aside0.mk H
         clear H
         have p336108 : 0 ≤ (x14_1 : Int) := of_decide_eq_true (by first | (with_reducible assumption) | assumption)
         have q336108 : x14_1 < (t336105.length : Int) := of_decide_eq_true (by first | (with_reducible assumption) | assumption)
         obtain ⟨ad336108, e336108, hx336108_0⟩ := Kd.at_bool (Kd.R_reads' HO_12.out).2.2 x14_1 p336108 q336108
         (try rw [← Nbq14.out] at hx336108_0)
         cases e336108
         replace p336108 := eq_true p336108
         replace q336108 := eq_true q336108
         obtain ⟨Ao19, co19, eo19⟩ := Kd.R_slice HO_5.out
         subst eo19
         have p336109 : 0 ≤ (x14_1 : Int) := of_decide_eq_true (by first | (with_reducible assumption) | assumption)
         have q336109 : x14_1 < (t336102.length : Int) := of_decide_eq_true (by first | (with_reducible assumption) | assumption)
         obtain ⟨ad336109, e336109, hx336109_0⟩ := Kd.at_int (Kd.R_reads' HO_5.out).2.2 x14_1 p336109 q336109
         cases e336109
         replace p336109 := eq_true p336109
         replace q336109 := eq_true q336109
         go_wp2
         go_roundg k1
         case measure => have := HK1.out; omega
         case rel => exact ⟨(wrap64 (x14_1 + 1)), (by first | rfl | (simp; done) | (simp [*]; done)), H', ⟨by have := HK1.out; omega⟩, ⟨by (with_reducible repeat (first | apply Kd.R_alloc | apply Kd.R_drewN | apply Kd.R_drew)); exact HO_5.out⟩, ⟨by (with_reducible repeat (first | apply Kd.R_alloc | apply Kd.R_drewN | apply Kd.R_drew)); exact HO_12.out⟩, ⟨by (with_reducible repeat (first | refine blk_drewN ?_ _ | refine blk_drew ?_ | refine blk_alloc ?_ _)); exact BK336101.out⟩, ⟨by repeat (first | (with_reducible first | exact HB.out | apply below_alloc | apply pw_below_drewN | apply below_drew1 | refine below_set ?_ GE336101.out) | exact HB.out)⟩⟩
       ·rw [if_neg c16] at H
        exact absurd H (by simp)
      ·replace c15 := Bool.eq_false_iff.mpr c15
       subst c15
       have H1 : (spec_meHas.l0 k1 t336102 t336105 (t336105.length : Int) (wrap64 (x14_1 + 1))) = some r := by rw [if_neg (show ¬ (false = true) by decide)] at H; exact H
       clear H
       have H := H1
       clear H1
       have H' := Aside0.mk H
       clear H
       have p336108 : 0 ≤ (x14_1 : Int) := of_decide_eq_true (by first | (with_reducible assumption) | assumption)
       have q336108 : x14_1 < (t336105.length : Int) := of_decide_eq_true (by first | (with_reducible assumption) | assumption)
       obtain ⟨ad336108, e336108, hx336108_0⟩ := Kd.at_bool (Kd.R_reads' HO_12.out).2.2 x14_1 p336108 q336108
       (try rw [← Nbq14.out] at hx336108_0)
       cases e336108
       replace p336108 := eq_true p336108
       replace q336108 := eq_true q336108
       go_wp2
       go_roundg k1
       case measure => have := HK1.out; omega
       case rel => exact ⟨(wrap64 (x14_1 + 1)), (by first | rfl | (simp; done) | (simp [*]; done)), H', ⟨by have := HK1.out; omega⟩, ⟨by (with_reducible repeat (first | apply Kd.R_alloc | apply Kd.R_drewN | apply Kd.R_drew)); exact HO_5.out⟩, ⟨by (with_reducible repeat (first | apply Kd.R_alloc | apply Kd.R_drewN | apply Kd.R_drew)); exact HO_12.out⟩, ⟨by (with_reducible repeat (first | refine blk_drewN ?_ _ | refine blk_drew ?_ | refine blk_alloc ?_ _)); exact BK336101.out⟩, ⟨by repeat (first | (with_reducible first | exact HB.out | apply below_alloc | apply pw_below_drewN | apply below_drew1 | refine below_set ?_ GE336101.out) | exact HB.out)⟩⟩
     ·rw [if_neg c13] at H
      exact absurd H (by simp)
    ·rw [if_neg c12] at H
     exact absurd H (by simp)
   ·rw [if_neg c11] at H
    have c11b0 : decide (x14_1 < (t336105.length : Int)) = false := decide_eq_false c11
    clear c11
    obtain rfl := Option.some.inj H
    go_wp2
    go_ret
    exact ⟨by first | rfl | (simp [errW_none, errW_some] <;> rfl) | (simp [*, errW_none, errW_some] <;> rfl), by repeat (first | (with_reducible first | exact HB.out | apply below_alloc | apply pw_below_drewN | apply below_drew1 | refine below_set ?_ GE336101.out) | exact HB.out)⟩

end Go.Proofs.Ytkobjjadojpjfaa.Pr
