-- A text of the machine side, written by wip/gen.py of this repo out of the translation. Not trusted: Lean checks it.
import Derived.Test.YtkobjjadojpjfaaF0
import Derived.Test.YtkobjjadojpjfaaFGB
import Derived.Test.YtkobjjadojpjfaaFGC
import Derived.Test.YtkobjjadojpjfaaHareSquares
import Derived.Test.YtkobjjadojpjfaaHareThrows
namespace Go.Proofs.Ytkobjjadojpjfaa.Pr
open Go.RowKit Go.Proofs.YtkobjjadojpjfaaW.PrintWords Go.Proofs.YtkobjjadojpjfaaW.PrintLast Go.Proofs.YtkobjjadojpjfaaW.PrintMore
attribute [local go_sem] max2_int min2_int max_two min_two max_three min_three max_four min_four   -- for this text's walks alone
set_option linter.unusedVariables false
set_option linter.unusedSimpArgs false

section
/-! ### spec_l1All: function 200 -/
def spec_l1All.l0 : Nat → Int → Int → List Int → Int → Int → Option (Bool)
  | 0, _, _, _, _, _ => none
  | k + 1, x1, x2, x9, x10, x11 => if x11 < x10 then (if 0 ≤ x11 then (if x11 < (x9.length : Int) then ((spec_l1In.f (rd x9 x11) x1 x2).bind fun t400102 => (if t400102 = true then (spec_l1All.l0 k x1 x2 x9 x10 (wrap64 (x11 + 1))) else (some false))) else (none)) else (none)) else (some true)
def spec_l1All.f (k : Nat) (l0 : List Int) (a1 : Int) (a2 : Int) : Option (Bool) := spec_l1All.l0 k a1 a2 l0 (l0.length : Int) 0
theorem spec_l1All.mono_l : ∀ k, (∀ y0 y1 y2 y3 y4, LeO (spec_l1All.l0 k y0 y1 y2 y3 y4) (spec_l1All.l0 (k + 1) y0 y1 y2 y3 y4))
  | 0 => fun _ _ _ _ _ r h => by simp [spec_l1All.l0] at h
  | k + 1 => by
    have ih0 := spec_l1All.mono_l k
    · intro y0 y1 y2 y3 y4
      unfold spec_l1All.l0
      repeat' first
      | (with_reducible exact ih0 _ _ _ _ _)
      | (with_reducible exact LeO.refl _)
      | (with_reducible exact LeO.none _)
      | (with_reducible refine LeO.ite ?_ ?_)
      | (with_reducible refine LeO.bind ?_ (fun _ => ?_))
      | exact ih0 _ _ _ _ _
      | exact LeO.none _
      | refine LeO.ite ?_ ?_
      | refine LeO.bind ?_ (fun _ => ?_)
theorem spec_l1All.mono : ∀ a0 a1 a2 k, LeO (spec_l1All.f k a0 a1 a2) (spec_l1All.f (k + 1) a0 a1 a2) := by
  intro a0 a1 a2 k
  have ih0 := spec_l1All.mono_l k
  unfold spec_l1All.f
  repeat' first
      | (with_reducible exact ih0 _ _ _ _ _)
      | (with_reducible exact LeO.refl _)
      | (with_reducible exact LeO.none _)
      | (with_reducible refine LeO.ite ?_ ?_)
      | (with_reducible refine LeO.bind ?_ (fun _ => ?_))
      | exact ih0 _ _ _ _ _
      | exact LeO.none _
      | refine LeO.ite ?_ ?_
      | refine LeO.bind ?_ (fun _ => ?_)
set_option maxHeartbeats 8000000 in
set_option maxRecDepth 100000 in
theorem spec_l1All.calls (k : Nat) (A0 : Option Addr) (c0 : Nat) (l0 : List Int) (a1 : Int) (a2 : Int) (r : Bool) (w : World) (hr0 : Kd.C (Kd.int .i64) w A0 l0.length l0) (hc0 : l0.length ≤ c0) (h : spec_l1All.f k l0 a1 a2 = some r) :
    Calls Try.prog 200 #[.slice A0 l0.length c0, .int .i64 a1, .int .i64 a2] w fun e w' => e = .returned (.bool r) ∧ Drawn0 w w' := by
  have HR0 := Aside0.mk hr0
  have HC0 := Aside0.mk hc0
  clear hr0 hc0
  have H : (spec_l1All.l0 k a1 a2 l0 (l0.length : Int) 0) = some r := h
  clear h
  have H' := Aside0.mk H
  clear H
  go_enter Try.func200, Try.ntmps200
  go_wp2
  go_loopg [11] k (fun kq v11 w' => ∃ (x11_1 : Int), v11 = .int .i64 x11_1 ∧ Aside0 (spec_l1All.l0 kq a1 a2 l0 (l0.length : Int) x11_1 = some r) ∧ Aside0 (kq ≤ k) ∧ Drawn0 w w')
  case atStart => exact ⟨(0), (by first | rfl | (simp; done) | (simp [*]; done)), H', ⟨Nat.le_refl _⟩, by repeat (first | exact Drawn0.refl _ | apply Drawn0.step)⟩
  case round =>
    clear H'
    try clear c2
    try clear p2
    obtain ⟨x11_1, rfl, HA, HK1, ⟨m1, rfl⟩⟩ := hrel
    cases gk with
    | zero => exact absurd HA.out (by simp [spec_l1All.l0])
    | succ k1 =>
      have H := HA.out
      clear HA
      simp only [spec_l1All.l0] at H
      by_cases c4 : x11_1 < (l0.length : Int)
      · rw [if_pos c4] at H
        have c4b0 : decide (x11_1 < (l0.length : Int)) = true := decide_eq_true c4
        clear c4
        by_cases c5 : 0 ≤ x11_1
        · rw [if_pos c5] at H
          have c5b0 : decide (0 ≤ x11_1) = true := decide_eq_true c5
          clear c5
          by_cases c6 : x11_1 < (l0.length : Int)
          · rw [if_pos c6] at H
            have c6b0 : decide (x11_1 < (l0.length : Int)) = true := decide_eq_true c6
            clear c6
            replace H := Option.bind_eq_some_iff.mp H
            obtain ⟨t400102, A70, H⟩ := H
            replace H : (if t400102 = true then (spec_l1All.l0 k1 a1 a2 l0 (l0.length : Int) (wrap64 (x11_1 + 1))) else (some false)) = some r := H
            have A7 := Aside0.mk A70
            clear A70
            by_cases c8 : t400102 = true
            · subst c8
              have H1 : (spec_l1All.l0 k1 a1 a2 l0 (l0.length : Int) (wrap64 (x11_1 + 1))) = some r := by rw [if_pos rfl] at H; exact H
              clear H
              have H := H1
              clear H1
              have H' := Aside0.mk H
              clear H
              have p400101 : 0 ≤ (x11_1 : Int) := of_decide_eq_true (by first | (with_reducible assumption) | assumption)
              have q400101 : x11_1 < (l0.length : Int) := of_decide_eq_true (by first | (with_reducible assumption) | assumption)
              obtain ⟨ad400101, e400101, hx400101_0⟩ := Kd.at_int HR0.out x11_1 p400101 q400101
              cases e400101
              replace p400101 := eq_true p400101
              replace q400101 := eq_true q400101
              go_wp2_with (first | ((with_reducible refine gate_callee (f := 136) rfl ?_); refine goesL_ (some 18) rfl rfl Try.func136 (by kernel_rfl) rfl #[.int .i64 (rd l0 x11_1), .int .i64 a1, .int .i64 a2] rfl (by (try simp only [List.map_toArray, List.map_cons, List.map_nil]); first | done | rfl | (simp only [List.length_drop, List.length_take]; rfl)) ?_; (with_reducible refine (spec_l1In.calls (rd l0 x11_1) a1 a2 true _ A7.out).mono ?_); rintro e w' ⟨rfl, ⟨nd, rfl⟩⟩; refine ⟨_, rfl, ?_⟩))
              go_roundg k1
              case measure => have := HK1.out; omega
              case rel => exact ⟨(wrap64 (x11_1 + 1)), (by first | rfl | (simp; done) | (simp [*]; done)), H', ⟨by have := HK1.out; omega⟩, by repeat (first | exact Drawn0.refl _ | apply Drawn0.step)⟩
            · replace c8 := Bool.eq_false_iff.mpr c8
              subst c8
              have H1 : (some false) = some r := by rw [if_neg (show ¬ (false = true) by decide)] at H; exact H
              clear H
              have H := H1
              clear H1
              obtain rfl := Option.some.inj H
              have p400101 : 0 ≤ (x11_1 : Int) := of_decide_eq_true (by first | (with_reducible assumption) | assumption)
              have q400101 : x11_1 < (l0.length : Int) := of_decide_eq_true (by first | (with_reducible assumption) | assumption)
              obtain ⟨ad400101, e400101, hx400101_0⟩ := Kd.at_int HR0.out x11_1 p400101 q400101
              cases e400101
              replace p400101 := eq_true p400101
              replace q400101 := eq_true q400101
              go_wp2_with (first | ((with_reducible refine gate_callee (f := 136) rfl ?_); refine goesL_ (some 18) rfl rfl Try.func136 (by kernel_rfl) rfl #[.int .i64 (rd l0 x11_1), .int .i64 a1, .int .i64 a2] rfl (by (try simp only [List.map_toArray, List.map_cons, List.map_nil]); first | done | rfl | (simp only [List.length_drop, List.length_take]; rfl)) ?_; (with_reducible refine (spec_l1In.calls (rd l0 x11_1) a1 a2 false _ A7.out).mono ?_); rintro e w' ⟨rfl, ⟨nd, rfl⟩⟩; refine ⟨_, rfl, ?_⟩))
              go_ret
              exact ⟨by first | rfl | (simp; done) | (simp [*]; done), by repeat (first | exact Drawn0.refl _ | apply Drawn0.step)⟩
          · rw [if_neg c6] at H
            exact absurd H (by simp)
        · rw [if_neg c5] at H
          exact absurd H (by simp)
      · rw [if_neg c4] at H
        have c4b0 : decide (x11_1 < (l0.length : Int)) = false := decide_eq_false c4
        clear c4
        obtain rfl := Option.some.inj H
        go_wp2
        go_ret
        exact ⟨by first | rfl | (simp; done) | (simp [*]; done), by repeat (first | exact Drawn0.refl _ | apply Drawn0.step)⟩

end

section
/-! ### spec_sqThrows: function 146 -/
def spec_sqThrows.f (k : Nat) (a0_0 : Int) (a0_1 : Int) (a0_2 : Int) (l0_3 : List (S27)) (a1 : Int) (l2 : List Int) : Option (Bool) := (spec_sqAsked.f k a0_0 a0_1 a0_2 l0_3 a1).bind fun t292102 => (if t292102 = true then (if (l2.length : Int) ≤ 200 then ((spec_l1All.f k l2 1 a0_1).bind fun t292103 => (some t292103)) else (some false)) else (some false))
theorem spec_sqThrows.mono : ∀ a0 a1 a2 a3 a4 a5 k, LeO (spec_sqThrows.f k a0 a1 a2 a3 a4 a5) (spec_sqThrows.f (k + 1) a0 a1 a2 a3 a4 a5) := by
  intro a0 a1 a2 a3 a4 a5 k
  unfold spec_sqThrows.f
  repeat' first
      | (with_reducible exact spec_l1All.mono _ _ _ _)
      | (with_reducible exact spec_sqAsked.mono _ _ _ _ _ _)
      | (with_reducible exact LeO.refl _)
      | (with_reducible exact LeO.none _)
      | (with_reducible refine LeO.ite ?_ ?_)
      | (with_reducible refine LeO.bind ?_ (fun _ => ?_))
      | exact spec_l1All.mono _ _ _ _
      | exact spec_sqAsked.mono _ _ _ _ _ _
      | exact LeO.none _
      | refine LeO.ite ?_ ?_
      | refine LeO.bind ?_ (fun _ => ?_)
set_option maxHeartbeats 8000000 in
set_option maxRecDepth 100000 in
theorem spec_sqThrows.calls (k : Nat) (a0_0 : Int) (a0_1 : Int) (a0_2 : Int) (A0_3 : Option Addr) (c0_3 : Nat) (l0_3 : List (S27)) (a1 : Int) (A2 : Option Addr) (c2 : Nat) (l2 : List Int) (r : Bool) (w : World) (hr0_3 : Kd.C k27 w A0_3 l0_3.length l0_3) (hc0_3 : l0_3.length ≤ c0_3) (hr2 : Kd.C (Kd.int .i64) w A2 l2.length l2) (hc2 : l2.length ≤ c2) (h : spec_sqThrows.f k a0_0 a0_1 a0_2 l0_3 a1 l2 = some r) :
    Calls Try.prog 146 #[.agg #[.int .i64 a0_0, .int .i64 a0_1, .int .i64 a0_2, .slice A0_3 l0_3.length c0_3], .int .i64 a1, .slice A2 l2.length c2] w fun e w' => e = .returned (.bool r) ∧ Below w.heap.size w w' := by
  have hu32 := Try.underlying32
  have HR0_3 := Aside0.mk hr0_3
  have HC0_3 := Aside0.mk hc0_3
  clear hr0_3 hc0_3
  have HR2 := Aside0.mk hr2
  have HC2 := Aside0.mk hc2
  clear hr2 hc2
  have HB := Aside0.mk (Below.refl w.heap.size w)
  have H : ((spec_sqAsked.f k a0_0 a0_1 a0_2 l0_3 a1).bind fun t292102 => (if t292102 = true then (if (l2.length : Int) ≤ 200 then ((spec_l1All.f k l2 1 a0_1).bind fun t292103 => (some t292103)) else (some false)) else (some false))) = some r := h
  clear h
  replace H := Option.bind_eq_some_iff.mp H
  obtain ⟨t292102, A40, H⟩ := H
  replace H : (if t292102 = true then (if (l2.length : Int) ≤ 200 then ((spec_l1All.f k l2 1 a0_1).bind fun t292103 => (some t292103)) else (some false)) else (some false)) = some r := H
  have A4 := Aside0.mk A40
  clear A40
  by_cases c5 : t292102 = true
  · subst c5
    have H1 : (if (l2.length : Int) ≤ 200 then ((spec_l1All.f k l2 1 a0_1).bind fun t292103 => (some t292103)) else (some false)) = some r := by rw [if_pos rfl] at H; exact H
    clear H
    have H := H1
    clear H1
    by_cases c6 : (l2.length : Int) ≤ 200
    · rw [if_pos c6] at H
      have c6b0 : decide ((l2.length : Int) ≤ 200) = true := decide_eq_true c6
      have c6b1 : decide (l2.length ≤ 200) = true := decide_eq_true (by omega)
      clear c6
      replace H := Option.bind_eq_some_iff.mp H
      obtain ⟨t292103, A70, H⟩ := H
      replace H : (some t292103) = some r := H
      have A7 := Aside0.mk A70
      clear A70
      obtain rfl := Option.some.inj H
      go_enter Try.func146, Try.ntmps146
      go_wp2_with (first | ((with_reducible refine gate_dst (N := 3) rfl ?_); (try (refine gate_guard (by rfl) ?_; dsimp only)); refine box_event ?hg (N := 3) ?hd (cs := #[.int .i64 a0_0, .int .i64 a0_1, .int .i64 a0_2, .slice A0_3 l0_3.length c0_3]) (t := 32) ?hr ?_; (case hd => rfl); (case hg => rfl); (case hr => first | (go_simp; done) | (go_simp; rfl)); intro gb292101 hg w8 hbox hb; have n0_ := Aside0.mk (below_step (by repeat (first | (with_reducible first | exact HB.out | apply below_alloc | apply pw_below_drewN | apply below_drew1) | exact HB.out)) hb); have n1_ := Aside0.mk (hbox); have n2_ := Aside0.mk ((by rw [hg]; exact (below_size (by repeat (first | (with_reducible first | exact HB.out | apply below_alloc | apply pw_below_drewN | apply below_drew1) | exact HB.out))) : w.heap.size ≤ gb292101)); have n3_ := Aside0.mk ((by rw [hg]; exact (below_size (by repeat (first | (with_reducible first | exact HB.out | apply below_alloc | apply pw_below_drewN | apply below_drew1) | exact HB.out))) : w.heap.size ≤ gb292101)); clear HB; have HB := n0_; have BK292101 := n1_; have GW292101 := n2_; have GE292101 := n3_; clear n0_ n1_ n2_ n3_; clear hb hbox hg; have hcz9_0 : w8.cell? ⟨gb292101, 0, none⟩ = some (.int .i64 a0_0) := (blk_cell BK292101.out 0).trans rfl; have hcz9_1 : w8.cell? ⟨gb292101, 1, none⟩ = some (.int .i64 a0_1) := (blk_cell BK292101.out 1).trans rfl; have hcz9_2 : w8.cell? ⟨gb292101, 2, none⟩ = some (.int .i64 a0_2) := (blk_cell BK292101.out 2).trans rfl; have hcz9_3 : w8.cell? ⟨gb292101, 3, none⟩ = some (.slice A0_3 l0_3.length c0_3) := (blk_cell BK292101.out 3).trans rfl; have hfz9_0 := blk_frozen BK292101.out 0; have hfz9_1 := blk_frozen BK292101.out 1; have hfz9_2 := blk_frozen BK292101.out 2; have hfz9_3 := blk_frozen BK292101.out 3) | ((with_reducible refine gate_callee (f := 135) rfl ?_); refine goesL_ (some 9) rfl rfl Try.func135 (by kernel_rfl) rfl #[.agg #[.int .i64 a0_0, .int .i64 a0_1, .int .i64 a0_2, .slice A0_3 l0_3.length c0_3], .int .i64 a1] rfl (by (try simp only [List.map_toArray, List.map_cons, List.map_nil]); first | done | rfl | (simp only [List.length_drop, List.length_take]; rfl)) ?_; (with_reducible refine (spec_sqAsked.calls k a0_0 a0_1 a0_2 _ _ l0_3 a1 true _ ?side1 ?side2 A4.out).mono ?_); (case side1 => repeat (first | exact (Kd.C_below HR0_3.out HB.out) | (with_reducible refine Kd.C_alloc ?_ _) | (with_reducible refine Kd.C_drewN ?_ _) | (with_reducible refine Kd.C_drew ?_))); (case side2 => exact HC0_3.out); rintro e w10 ⟨rfl, hb⟩; refine ⟨_, rfl, ?_⟩; have n0_ := Aside0.mk (blk_below (g := gb292101) (o := .cells #[.int .i64 a0_0, .int .i64 a0_1, .int .i64 a0_2, .slice A0_3 l0_3.length c0_3] 32 (0, 0)) (by (with_reducible repeat (first | refine blk_drewN ?_ _ | refine blk_drew ?_ | refine blk_alloc ?_ _)); exact BK292101.out) hb); have n1_ := Aside0.mk (below_step (by repeat (first | (with_reducible first | exact HB.out | apply below_alloc | apply pw_below_drewN | apply below_drew1 | refine below_set ?_ GE292101.out) | exact HB.out)) hb); clear BK292101; clear HB; have BK292101 := n0_; have HB := n1_; clear n0_ n1_; (try clear hb); (try clear hb2); (try clear hk); (try clear hi); have hcz11_0 : w10.cell? ⟨gb292101, 0, none⟩ = some (.int .i64 a0_0) := (blk_cell BK292101.out 0).trans rfl; have hcz11_1 : w10.cell? ⟨gb292101, 1, none⟩ = some (.int .i64 a0_1) := (blk_cell BK292101.out 1).trans rfl; have hcz11_2 : w10.cell? ⟨gb292101, 2, none⟩ = some (.int .i64 a0_2) := (blk_cell BK292101.out 2).trans rfl; have hcz11_3 : w10.cell? ⟨gb292101, 3, none⟩ = some (.slice A0_3 l0_3.length c0_3) := (blk_cell BK292101.out 3).trans rfl; have hfz11_0 := blk_frozen BK292101.out 0; have hfz11_1 := blk_frozen BK292101.out 1; have hfz11_2 := blk_frozen BK292101.out 2; have hfz11_3 := blk_frozen BK292101.out 3) | (go_at_call 200; (with_reducible refine (spec_l1All.calls k _ _ l2 1 a0_1 t292103 _ ?side1 ?side2 A7.out).mono ?_); (case side1 => repeat (first | exact (Kd.C_below HR2.out HB.out) | (with_reducible refine Kd.C_alloc ?_ _) | (with_reducible refine Kd.C_drewN ?_ _) | (with_reducible refine Kd.C_drew ?_))); (case side2 => exact HC2.out); rintro e w' ⟨rfl, ⟨nd, rfl⟩⟩))
      go_ret
      exact ⟨by first | rfl | (simp [errW_none, errW_some] <;> rfl) | (simp [*, errW_none, errW_some] <;> rfl), by repeat (first | (with_reducible first | exact HB.out | apply below_alloc | apply pw_below_drewN | apply below_drew1 | refine below_set ?_ GE292101.out) | exact HB.out)⟩
    · rw [if_neg c6] at H
      have c6b0 : decide ((l2.length : Int) ≤ 200) = false := decide_eq_false c6
      have c6b1 : decide (l2.length ≤ 200) = false := decide_eq_false (by omega)
      clear c6
      obtain rfl := Option.some.inj H
      go_enter Try.func146, Try.ntmps146
      go_wp2_with (first | ((with_reducible refine gate_dst (N := 3) rfl ?_); (try (refine gate_guard (by rfl) ?_; dsimp only)); refine box_event ?hg (N := 3) ?hd (cs := #[.int .i64 a0_0, .int .i64 a0_1, .int .i64 a0_2, .slice A0_3 l0_3.length c0_3]) (t := 32) ?hr ?_; (case hd => rfl); (case hg => rfl); (case hr => first | (go_simp; done) | (go_simp; rfl)); intro gb292101 hg w12 hbox hb; have n0_ := Aside0.mk (below_step (by repeat (first | (with_reducible first | exact HB.out | apply below_alloc | apply pw_below_drewN | apply below_drew1) | exact HB.out)) hb); have n1_ := Aside0.mk (hbox); have n2_ := Aside0.mk ((by rw [hg]; exact (below_size (by repeat (first | (with_reducible first | exact HB.out | apply below_alloc | apply pw_below_drewN | apply below_drew1) | exact HB.out))) : w.heap.size ≤ gb292101)); have n3_ := Aside0.mk ((by rw [hg]; exact (below_size (by repeat (first | (with_reducible first | exact HB.out | apply below_alloc | apply pw_below_drewN | apply below_drew1) | exact HB.out))) : w.heap.size ≤ gb292101)); clear HB; have HB := n0_; have BK292101 := n1_; have GW292101 := n2_; have GE292101 := n3_; clear n0_ n1_ n2_ n3_; clear hb hbox hg; have hcz13_0 : w12.cell? ⟨gb292101, 0, none⟩ = some (.int .i64 a0_0) := (blk_cell BK292101.out 0).trans rfl; have hcz13_1 : w12.cell? ⟨gb292101, 1, none⟩ = some (.int .i64 a0_1) := (blk_cell BK292101.out 1).trans rfl; have hcz13_2 : w12.cell? ⟨gb292101, 2, none⟩ = some (.int .i64 a0_2) := (blk_cell BK292101.out 2).trans rfl; have hcz13_3 : w12.cell? ⟨gb292101, 3, none⟩ = some (.slice A0_3 l0_3.length c0_3) := (blk_cell BK292101.out 3).trans rfl; have hfz13_0 := blk_frozen BK292101.out 0; have hfz13_1 := blk_frozen BK292101.out 1; have hfz13_2 := blk_frozen BK292101.out 2; have hfz13_3 := blk_frozen BK292101.out 3) | ((with_reducible refine gate_callee (f := 135) rfl ?_); refine goesL_ (some 9) rfl rfl Try.func135 (by kernel_rfl) rfl #[.agg #[.int .i64 a0_0, .int .i64 a0_1, .int .i64 a0_2, .slice A0_3 l0_3.length c0_3], .int .i64 a1] rfl (by (try simp only [List.map_toArray, List.map_cons, List.map_nil]); first | done | rfl | (simp only [List.length_drop, List.length_take]; rfl)) ?_; (with_reducible refine (spec_sqAsked.calls k a0_0 a0_1 a0_2 _ _ l0_3 a1 true _ ?side1 ?side2 A4.out).mono ?_); (case side1 => repeat (first | exact (Kd.C_below HR0_3.out HB.out) | (with_reducible refine Kd.C_alloc ?_ _) | (with_reducible refine Kd.C_drewN ?_ _) | (with_reducible refine Kd.C_drew ?_))); (case side2 => exact HC0_3.out); rintro e w14 ⟨rfl, hb⟩; refine ⟨_, rfl, ?_⟩; have n0_ := Aside0.mk (blk_below (g := gb292101) (o := .cells #[.int .i64 a0_0, .int .i64 a0_1, .int .i64 a0_2, .slice A0_3 l0_3.length c0_3] 32 (0, 0)) (by (with_reducible repeat (first | refine blk_drewN ?_ _ | refine blk_drew ?_ | refine blk_alloc ?_ _)); exact BK292101.out) hb); have n1_ := Aside0.mk (below_step (by repeat (first | (with_reducible first | exact HB.out | apply below_alloc | apply pw_below_drewN | apply below_drew1 | refine below_set ?_ GE292101.out) | exact HB.out)) hb); clear BK292101; clear HB; have BK292101 := n0_; have HB := n1_; clear n0_ n1_; (try clear hb); (try clear hb2); (try clear hk); (try clear hi)))
      go_ret
      exact ⟨by first | rfl | (simp [errW_none, errW_some] <;> rfl) | (simp [*, errW_none, errW_some] <;> rfl), by repeat (first | (with_reducible first | exact HB.out | apply below_alloc | apply pw_below_drewN | apply below_drew1 | refine below_set ?_ GE292101.out) | exact HB.out)⟩
  · replace c5 := Bool.eq_false_iff.mpr c5
    subst c5
    have H1 : (some false) = some r := by rw [if_neg (show ¬ (false = true) by decide)] at H; exact H
    clear H
    have H := H1
    clear H1
    obtain rfl := Option.some.inj H
    go_enter Try.func146, Try.ntmps146
    go_wp2_with (first | ((with_reducible refine gate_dst (N := 3) rfl ?_); (try (refine gate_guard (by rfl) ?_; dsimp only)); refine box_event ?hg (N := 3) ?hd (cs := #[.int .i64 a0_0, .int .i64 a0_1, .int .i64 a0_2, .slice A0_3 l0_3.length c0_3]) (t := 32) ?hr ?_; (case hd => rfl); (case hg => rfl); (case hr => first | (go_simp; done) | (go_simp; rfl)); intro gb292101 hg w15 hbox hb; have n0_ := Aside0.mk (below_step (by repeat (first | (with_reducible first | exact HB.out | apply below_alloc | apply pw_below_drewN | apply below_drew1) | exact HB.out)) hb); have n1_ := Aside0.mk (hbox); have n2_ := Aside0.mk ((by rw [hg]; exact (below_size (by repeat (first | (with_reducible first | exact HB.out | apply below_alloc | apply pw_below_drewN | apply below_drew1) | exact HB.out))) : w.heap.size ≤ gb292101)); have n3_ := Aside0.mk ((by rw [hg]; exact (below_size (by repeat (first | (with_reducible first | exact HB.out | apply below_alloc | apply pw_below_drewN | apply below_drew1) | exact HB.out))) : w.heap.size ≤ gb292101)); clear HB; have HB := n0_; have BK292101 := n1_; have GW292101 := n2_; have GE292101 := n3_; clear n0_ n1_ n2_ n3_; clear hb hbox hg; have hcz16_0 : w15.cell? ⟨gb292101, 0, none⟩ = some (.int .i64 a0_0) := (blk_cell BK292101.out 0).trans rfl; have hcz16_1 : w15.cell? ⟨gb292101, 1, none⟩ = some (.int .i64 a0_1) := (blk_cell BK292101.out 1).trans rfl; have hcz16_2 : w15.cell? ⟨gb292101, 2, none⟩ = some (.int .i64 a0_2) := (blk_cell BK292101.out 2).trans rfl; have hcz16_3 : w15.cell? ⟨gb292101, 3, none⟩ = some (.slice A0_3 l0_3.length c0_3) := (blk_cell BK292101.out 3).trans rfl; have hfz16_0 := blk_frozen BK292101.out 0; have hfz16_1 := blk_frozen BK292101.out 1; have hfz16_2 := blk_frozen BK292101.out 2; have hfz16_3 := blk_frozen BK292101.out 3) | ((with_reducible refine gate_callee (f := 135) rfl ?_); refine goesL_ (some 9) rfl rfl Try.func135 (by kernel_rfl) rfl #[.agg #[.int .i64 a0_0, .int .i64 a0_1, .int .i64 a0_2, .slice A0_3 l0_3.length c0_3], .int .i64 a1] rfl (by (try simp only [List.map_toArray, List.map_cons, List.map_nil]); first | done | rfl | (simp only [List.length_drop, List.length_take]; rfl)) ?_; (with_reducible refine (spec_sqAsked.calls k a0_0 a0_1 a0_2 _ _ l0_3 a1 false _ ?side1 ?side2 A4.out).mono ?_); (case side1 => repeat (first | exact (Kd.C_below HR0_3.out HB.out) | (with_reducible refine Kd.C_alloc ?_ _) | (with_reducible refine Kd.C_drewN ?_ _) | (with_reducible refine Kd.C_drew ?_))); (case side2 => exact HC0_3.out); rintro e w17 ⟨rfl, hb⟩; refine ⟨_, rfl, ?_⟩; have n0_ := Aside0.mk (blk_below (g := gb292101) (o := .cells #[.int .i64 a0_0, .int .i64 a0_1, .int .i64 a0_2, .slice A0_3 l0_3.length c0_3] 32 (0, 0)) (by (with_reducible repeat (first | refine blk_drewN ?_ _ | refine blk_drew ?_ | refine blk_alloc ?_ _)); exact BK292101.out) hb); have n1_ := Aside0.mk (below_step (by repeat (first | (with_reducible first | exact HB.out | apply below_alloc | apply pw_below_drewN | apply below_drew1 | refine below_set ?_ GE292101.out) | exact HB.out)) hb); clear BK292101; clear HB; have BK292101 := n0_; have HB := n1_; clear n0_ n1_; (try clear hb); (try clear hb2); (try clear hk); (try clear hi)))
    go_ret
    exact ⟨by first | rfl | (simp [errW_none, errW_some] <;> rfl) | (simp [*, errW_none, errW_some] <;> rfl), by repeat (first | (with_reducible first | exact HB.out | apply below_alloc | apply pw_below_drewN | apply below_drew1 | refine below_set ?_ GE292101.out) | exact HB.out)⟩

end

section
/-! ### spec_sqPlay: function 147 -/
def spec_sqPlay.l0 : Nat → Int → List Int → List Int → Int → Int → Int → Int → Int → List (S27) → Option (List Int)
  | 0, _, _, _, _, _, _, _, _, _ => none
  | k + 1, x1, x7, x12, x13, x14, x294102000, x294102001, x294102002, x294102003 => if x14 < x13 then (if 0 ≤ x14 then (if x14 < (x12.length : Int) then ((spec_sqThrow.f k x294102000 x294102001 x294102002 x294102003 x1 (rd x12 x14)).bind fun t294106 => (if x7.length < 17592186044416 then (spec_sqPlay.l0 k t294106 (x7 ++ [t294106]) x12 x13 (wrap64 (x14 + 1)) x294102000 x294102001 x294102002 x294102003) else (none))) else (none)) else (none)) else (some x7)
def spec_sqPlay.f (k : Nat) (a0_0 : Int) (a0_1 : Int) (a0_2 : Int) (l0_3 : List (S27)) (a1 : Int) (l2 : List Int) : Option (List Int) := spec_sqPlay.l0 k a1 (([a1] : List Int)) l2 (l2.length : Int) 0 a0_0 a0_1 a0_2 l0_3
theorem spec_sqPlay.mono_l : ∀ k, (∀ y0 y1 y2 y3 y4 y5 y6 y7 y8, LeO (spec_sqPlay.l0 k y0 y1 y2 y3 y4 y5 y6 y7 y8) (spec_sqPlay.l0 (k + 1) y0 y1 y2 y3 y4 y5 y6 y7 y8))
  | 0 => fun _ _ _ _ _ _ _ _ _ r h => by simp [spec_sqPlay.l0] at h
  | k + 1 => by
    have ih0 := spec_sqPlay.mono_l k
    · intro y0 y1 y2 y3 y4 y5 y6 y7 y8
      unfold spec_sqPlay.l0
      repeat' first
      | (with_reducible exact ih0 _ _ _ _ _ _ _ _ _)
      | (with_reducible exact spec_sqThrow.mono _ _ _ _ _ _ _)
      | (with_reducible exact LeO.refl _)
      | (with_reducible exact LeO.none _)
      | (with_reducible refine LeO.ite ?_ ?_)
      | (with_reducible refine LeO.bind ?_ (fun _ => ?_))
      | exact ih0 _ _ _ _ _ _ _ _ _
      | exact spec_sqThrow.mono _ _ _ _ _ _ _
      | exact LeO.none _
      | refine LeO.ite ?_ ?_
      | refine LeO.bind ?_ (fun _ => ?_)
theorem spec_sqPlay.mono : ∀ a0 a1 a2 a3 a4 a5 k, LeO (spec_sqPlay.f k a0 a1 a2 a3 a4 a5) (spec_sqPlay.f (k + 1) a0 a1 a2 a3 a4 a5) := by
  intro a0 a1 a2 a3 a4 a5 k
  have ih0 := spec_sqPlay.mono_l k
  unfold spec_sqPlay.f
  repeat' first
      | (with_reducible exact ih0 _ _ _ _ _ _ _ _ _)
      | (with_reducible exact spec_sqThrow.mono _ _ _ _ _ _ _)
      | (with_reducible exact LeO.refl _)
      | (with_reducible exact LeO.none _)
      | (with_reducible refine LeO.ite ?_ ?_)
      | (with_reducible refine LeO.bind ?_ (fun _ => ?_))
      | exact ih0 _ _ _ _ _ _ _ _ _
      | exact spec_sqThrow.mono _ _ _ _ _ _ _
      | exact LeO.none _
      | refine LeO.ite ?_ ?_
      | refine LeO.bind ?_ (fun _ => ?_)
set_option maxHeartbeats 8000000 in
set_option maxRecDepth 100000 in
theorem spec_sqPlay.calls (k : Nat) (a0_0 : Int) (a0_1 : Int) (a0_2 : Int) (A0_3 : Option Addr) (c0_3 : Nat) (l0_3 : List (S27)) (a1 : Int) (A2 : Option Addr) (c2 : Nat) (l2 : List Int) (r : List Int) (w : World) (hr0_3 : Kd.C k27 w A0_3 l0_3.length l0_3) (hc0_3 : l0_3.length ≤ c0_3) (hr2 : Kd.C (Kd.int .i64) w A2 l2.length l2) (hc2 : l2.length ≤ c2) (h : spec_sqPlay.f k a0_0 a0_1 a0_2 l0_3 a1 l2 = some r) :
    Calls Try.prog 147 #[.agg #[.int .i64 a0_0, .int .i64 a0_1, .int .i64 a0_2, .slice A0_3 l0_3.length c0_3], .int .i64 a1, .slice A2 l2.length c2] w fun e w' => ∃ v0_ : Value, e = .returned (v0_) ∧ Kd.R (Kd.int .i64) 3 w' w.heap.size (fun _ => True) v0_ r ∧ Below w.heap.size w w' := by
  have hu32 := Try.underlying32
  have HR0_3 := Aside0.mk hr0_3
  have HC0_3 := Aside0.mk hc0_3
  clear hr0_3 hc0_3
  have HR2 := Aside0.mk hr2
  have HC2 := Aside0.mk hc2
  clear hr2 hc2
  have HB := Aside0.mk (Below.refl w.heap.size w)
  have H : (spec_sqPlay.l0 k a1 (([a1] : List Int)) l2 (l2.length : Int) 0 a0_0 a0_1 a0_2 l0_3) = some r := h
  clear h
  obtain ⟨y294102, hy294102⟩ : ∃ y_ : List Int, y_ = (([a1] : List Int)) := ⟨_, rfl⟩
  replace H : (spec_sqPlay.l0 k a1 y294102 l2 (l2.length : Int) 0 a0_0 a0_1 a0_2 l0_3) = some r := by first | (rw [hy294102]; with_reducible exact H) | (have H2_ := (Option.bind_some _ _).symm.trans H; rw [hy294102]; with_reducible exact H2_) | (have H2_ := (Option.bind_some _ _).symm.trans H; with_reducible exact H2_) | with_reducible exact H | (rw [hy294102]; exact H) | exact H
  have Ny294102 := Aside0.mk hy294102
  clear hy294102
  have H' := Aside0.mk H
  clear H
  go_enter Try.func147, Try.ntmps147
  go_wp2_with (first | ((with_reducible refine gate_dst (N := 3) rfl ?_); refine box_event ?hg (N := 3) ?hd (cs := #[.int .i64 a0_0, .int .i64 a0_1, .int .i64 a0_2, .slice A0_3 l0_3.length c0_3]) (t := 32) ?hr ?_; (case hd => rfl); (case hg => rfl); (case hr => first | (go_simp; done) | (go_simp; rfl)); intro gb294101 hg w4 hbox hb; have n0_ := Aside0.mk (below_step (by repeat (first | (with_reducible first | exact HB.out | apply below_alloc | apply pw_below_drewN | apply below_drew1) | exact HB.out)) hb); have n1_ := Aside0.mk (hbox); have n2_ := Aside0.mk ((by rw [hg]; exact (below_size (by repeat (first | (with_reducible first | exact HB.out | apply below_alloc | apply pw_below_drewN | apply below_drew1) | exact HB.out))) : w.heap.size ≤ gb294101)); have n3_ := Aside0.mk ((by rw [hg]; exact (below_size (by repeat (first | (with_reducible first | exact HB.out | apply below_alloc | apply pw_below_drewN | apply below_drew1) | exact HB.out))) : w.heap.size ≤ gb294101)); clear HB; have HB := n0_; have BK294101 := n1_; have GW294101 := n2_; have GE294101 := n3_; clear n0_ n1_ n2_ n3_; clear hb hbox hg) | ((with_reducible refine gate_dst (N := 11) rfl ?_); refine Kd.R_lit (Kd.int .i64) _ 3 ?hg (N := 11) ?hd (xs := ([a1] : List Int)) (inner := [.int .i64 a1]) (ok := fun _ => True) (okp := fun _ => True) ?hr ?hp (fun _ hk => hk) trivial (Below.refl _ _) (Nat.le_refl _) (by simp) ?_; (case hd => rfl); (case hg => rfl); (case hr => first | (go_simp; done) | (go_simp; rfl)); (case hp => exact (Reps.one (show Kd.M (Kd.int .i64) _ _ _ a1 [.int .i64 a1] from rfl) (Reps.none _ _))); intro v294103 w5 ho6 hb hg_ hnew_; clear hg_ hnew_; (first | rw [← Ny294102.out] at ho6 | (simp only [Int.reduceToNat] at ho6; rw [← Ny294102.out] at ho6)); have n0_ := Aside0.mk (Kd.R_lower ho6 (below_size (by repeat (first | (with_reducible first | exact HB.out | apply below_alloc | apply pw_below_drewN | apply below_drew1 | refine below_set ?_ GE294101.out) | exact HB.out)))); have n1_ := Aside0.mk (blk_below (g := gb294101) (o := .cells #[.int .i64 a0_0, .int .i64 a0_1, .int .i64 a0_2, .slice A0_3 l0_3.length c0_3] 32 (0, 0)) (by (with_reducible repeat (first | refine blk_drewN ?_ _ | refine blk_drew ?_ | refine blk_alloc ?_ _)); exact BK294101.out) hb); have n2_ := Aside0.mk (below_step (by repeat (first | (with_reducible first | exact HB.out | apply below_alloc | apply pw_below_drewN | apply below_drew1 | refine below_set ?_ GE294101.out) | exact HB.out)) hb); clear BK294101; clear HB; have HO294104 := n0_; have BK294101 := n1_; have HB := n2_; clear n0_ n1_ n2_; clear hb ho6))
  go_loopg [1, 7, 14] k (fun kq v1 v7 v14 w' => ∃ (x1_1 : Int) (x7_1 : List Int) (x14_1 : Int), v1 = .int .i64 x1_1 ∧ v14 = .int .i64 x14_1 ∧ Aside0 (spec_sqPlay.l0 kq x1_1 x7_1 l2 (l2.length : Int) x14_1 a0_0 a0_1 a0_2 l0_3 = some r) ∧ Aside0 (kq ≤ k) ∧ Aside0 (Kd.R (Kd.int .i64) 3 w' w.heap.size (fun _ => True) v7 x7_1) ∧ Aside0 (w'.heap[gb294101]? = some (.cells #[.int .i64 a0_0, .int .i64 a0_1, .int .i64 a0_2, (.slice A0_3 l0_3.length c0_3)] 32 (0, 0))) ∧ Aside0 (Below w.heap.size w w'))
  case atStart => exact ⟨(a1), (y294102), (0), (by first | rfl | (simp; done) | (simp [*]; done)), (by first | rfl | (simp; done) | (simp [*]; done)), H', ⟨Nat.le_refl _⟩, ⟨by (with_reducible repeat (first | apply Kd.R_alloc | apply Kd.R_drewN | apply Kd.R_drew)); exact HO294104.out⟩, ⟨by (with_reducible repeat (first | refine blk_drewN ?_ _ | refine blk_drew ?_ | refine blk_alloc ?_ _)); exact BK294101.out⟩, ⟨by repeat (first | (with_reducible first | exact HB.out | apply below_alloc | apply pw_below_drewN | apply below_drew1 | refine below_set ?_ GE294101.out) | exact HB.out)⟩⟩
  case round =>
    clear H'
    try clear c1
    try clear c2
    try clear p2
    obtain ⟨x1_1, x7_1, x14_1, rfl, rfl, HA, HK1, HO_7, BK294101, HB⟩ := hrel
    cases gk with
    | zero => exact absurd HA.out (by simp [spec_sqPlay.l0])
    | succ k1 =>
      have H := HA.out
      clear HA
      simp only [spec_sqPlay.l0] at H
      by_cases c7 : x14_1 < (l2.length : Int)
      · rw [if_pos c7] at H
        have c7b0 : decide (x14_1 < (l2.length : Int)) = true := decide_eq_true c7
        clear c7
        by_cases c8 : 0 ≤ x14_1
        · rw [if_pos c8] at H
          have c8b0 : decide (0 ≤ x14_1) = true := decide_eq_true c8
          clear c8
          by_cases c9 : x14_1 < (l2.length : Int)
          · rw [if_pos c9] at H
            have c9b0 : decide (x14_1 < (l2.length : Int)) = true := decide_eq_true c9
            clear c9
            replace H := Option.bind_eq_some_iff.mp H
            obtain ⟨t294106, A100, H⟩ := H
            replace H : (if x7_1.length < 17592186044416 then (spec_sqPlay.l0 k1 t294106 (x7_1 ++ [t294106]) l2 (l2.length : Int) (wrap64 (x14_1 + 1)) a0_0 a0_1 a0_2 l0_3) else (none)) = some r := H
            have A10 := Aside0.mk A100
            clear A100
            by_cases c11 : x7_1.length < 17592186044416
            · rw [if_pos c11] at H
              have LMc11 := Aside0.mk c11
              clear c11
              obtain ⟨y294107, hy294107⟩ : ∃ y_ : List Int, y_ = (x7_1 ++ [t294106]) := ⟨_, rfl⟩
              replace H : (spec_sqPlay.l0 k1 t294106 y294107 l2 (l2.length : Int) (wrap64 (x14_1 + 1)) a0_0 a0_1 a0_2 l0_3) = some r := by first | (rw [hy294107]; with_reducible exact H) | (have H2_ := (Option.bind_some _ _).symm.trans H; rw [hy294107]; with_reducible exact H2_) | (have H2_ := (Option.bind_some _ _).symm.trans H; with_reducible exact H2_) | with_reducible exact H | (rw [hy294107]; exact H) | exact H
              have Ny294107 := Aside0.mk hy294107
              clear hy294107
              have H' := Aside0.mk H
              clear H
              have p294105 : 0 ≤ (x14_1 : Int) := of_decide_eq_true (by first | (with_reducible assumption) | assumption)
              have q294105 : x14_1 < (l2.length : Int) := of_decide_eq_true (by first | (with_reducible assumption) | assumption)
              obtain ⟨ad294105, e294105, hx294105_0⟩ := Kd.at_int HR2.out x14_1 p294105 q294105
              cases e294105
              first | (replace hx294105_0 := (HB.out.cell (World.block_lt_of_cell? w _ hx294105_0)).trans hx294105_0) | skip
              replace p294105 := eq_true p294105
              replace q294105 := eq_true q294105
              have hcz12_0 : wr.cell? ⟨gb294101, 0, none⟩ = some (.int .i64 a0_0) := (blk_cell BK294101.out 0).trans rfl
              have hcz12_1 : wr.cell? ⟨gb294101, 1, none⟩ = some (.int .i64 a0_1) := (blk_cell BK294101.out 1).trans rfl
              have hcz12_2 : wr.cell? ⟨gb294101, 2, none⟩ = some (.int .i64 a0_2) := (blk_cell BK294101.out 2).trans rfl
              have hcz12_3 : wr.cell? ⟨gb294101, 3, none⟩ = some (.slice A0_3 l0_3.length c0_3) := (blk_cell BK294101.out 3).trans rfl
              have hfz12_0 := blk_frozen BK294101.out 0
              have hfz12_1 := blk_frozen BK294101.out 1
              have hfz12_2 := blk_frozen BK294101.out 2
              have hfz12_3 := blk_frozen BK294101.out 3
              go_wp2_with (first | ((with_reducible refine gate_callee (f := 137) rfl ?_); refine goesL_ (some 21) rfl rfl Try.func137 (by kernel_rfl) rfl #[.agg #[.int .i64 a0_0, .int .i64 a0_1, .int .i64 a0_2, .slice A0_3 l0_3.length c0_3], .int .i64 x1_1, .int .i64 (rd l2 x14_1)] rfl (by (try simp only [List.map_toArray, List.map_cons, List.map_nil]); first | done | rfl | (simp only [List.length_drop, List.length_take]; rfl)) ?_; (with_reducible refine (spec_sqThrow.calls k1 a0_0 a0_1 a0_2 _ _ l0_3 x1_1 (rd l2 x14_1) t294106 _ ?side1 ?side2 A10.out).mono ?_); (case side1 => repeat (first | exact (Kd.C_below HR0_3.out HB.out) | (with_reducible refine Kd.C_alloc ?_ _) | (with_reducible refine Kd.C_drewN ?_ _) | (with_reducible refine Kd.C_drew ?_))); (case side2 => exact HC0_3.out); rintro e w13 ⟨rfl, hb⟩; refine ⟨_, rfl, ?_⟩; have n0_ := Aside0.mk (Kd.R_below (by (with_reducible repeat (first | apply Kd.R_alloc | apply Kd.R_drewN | apply Kd.R_drew)); exact HO_7.out) hb); have n1_ := Aside0.mk (blk_below (g := gb294101) (o := .cells #[.int .i64 a0_0, .int .i64 a0_1, .int .i64 a0_2, .slice A0_3 l0_3.length c0_3] 32 (0, 0)) (by (with_reducible repeat (first | refine blk_drewN ?_ _ | refine blk_drew ?_ | refine blk_alloc ?_ _)); exact BK294101.out) hb); have n2_ := Aside0.mk (below_step (by repeat (first | (with_reducible first | exact HB.out | apply below_alloc | apply pw_below_drewN | apply below_drew1 | refine below_set ?_ GE294101.out) | exact HB.out)) hb); clear HO_7; clear BK294101; clear HB; have HO_7 := n0_; have BK294101 := n1_; have HB := n2_; clear n0_ n1_ n2_; (try clear hb); (try clear hb2); (try clear hk); (try clear hi)) | ((with_reducible refine gate_builtin (b := .append) (xs := #[.tmp 22, .tmp 24]) rfl ?_); at_builtin; refine Kd.R_append (Kd.int .i64) (w0 := w) w.heap.size rfl (.tmp 22) (.tmp 24) 58 3 (.int .i64 0) 8 rfl Try.underlying58 info3 rfl (by decide) (by omega) u7 x7_1 t294106 [.int .i64 t294106] (fun _ => True) (fun _ => False) rfl rfl ?aP (fun _ hk => hk.elim) ?aF ?aO ?aB ?aS ?aL ?_; (case aP => exact rfl); (case aB => exact (by repeat (first | (with_reducible first | exact HB.out | apply below_alloc | apply pw_below_drewN | apply below_drew1 | refine below_set ?_ GE294101.out) | exact HB.out))); (case aF => exact (fun _ _ => trivial)); (case aO => exact (by (with_reducible repeat (first | apply Kd.R_alloc | apply Kd.R_drewN | apply Kd.R_drew)); exact HO_7.out)); (case aS => exact (below_size (by repeat (first | (with_reducible first | exact HB.out | apply below_alloc | apply pw_below_drewN | apply below_drew1 | refine below_set ?_ GE294101.out) | exact HB.out)))); (case aL => have := LMc11.out; omega); intro v294108 w14 ho hb hg hat; rw [← Ny294107.out] at ho; have n0_ := Aside0.mk (blk_grown (g := gb294101) (o := .cells #[.int .i64 a0_0, .int .i64 a0_1, .int .i64 a0_2, .slice A0_3 l0_3.length c0_3] 32 (0, 0)) (by (with_reducible repeat (first | refine blk_drewN ?_ _ | refine blk_drew ?_ | refine blk_alloc ?_ _)); exact BK294101.out) hg (Kd.R_ne HO_7.out BK294101.out (by decide))); have n1_ := Aside0.mk (hb); have n2_ := Aside0.mk (ho); clear BK294101; clear HB; clear HO_7; have BK294101 := n0_; have HB := n1_; have HO294109 := n2_; clear n0_ n1_ n2_; clear ho hb hg hat))
              go_roundg k1
              case measure => have := HK1.out; omega
              case rel => exact ⟨(t294106), (y294107), (wrap64 (x14_1 + 1)), (by first | rfl | (simp; done) | (simp [*]; done)), (by first | rfl | (simp; done) | (simp [*]; done)), H', ⟨by have := HK1.out; omega⟩, ⟨by (with_reducible repeat (first | apply Kd.R_alloc | apply Kd.R_drewN | apply Kd.R_drew)); exact HO294109.out⟩, ⟨by (with_reducible repeat (first | refine blk_drewN ?_ _ | refine blk_drew ?_ | refine blk_alloc ?_ _)); exact BK294101.out⟩, ⟨by repeat (first | (with_reducible first | exact HB.out | apply below_alloc | apply pw_below_drewN | apply below_drew1 | refine below_set ?_ GE294101.out) | exact HB.out)⟩⟩
            · rw [if_neg c11] at H
              exact absurd H (by simp)
          · rw [if_neg c9] at H
            exact absurd H (by simp)
        · rw [if_neg c8] at H
          exact absurd H (by simp)
      · rw [if_neg c7] at H
        have c7b0 : decide (x14_1 < (l2.length : Int)) = false := decide_eq_false c7
        clear c7
        obtain rfl := Option.some.inj H
        go_wp2
        go_ret
        exact ⟨_, by first | rfl | (simp [errW_none, errW_some] <;> rfl) | (simp [*, errW_none, errW_some] <;> rfl), by (with_reducible repeat (first | apply Kd.R_alloc | apply Kd.R_drewN | apply Kd.R_drew)); exact HO_7.out, by repeat (first | (with_reducible first | exact HB.out | apply below_alloc | apply pw_below_drewN | apply below_drew1 | refine below_set ?_ GE294101.out) | exact HB.out)⟩

end

section
/-! ### spec_PlayThrows: function 70 -/
def spec_PlayThrows.f (k : Nat) (a0_0 : Int) (a0_1 : Int) (a0_2 : Int) (l0_3 : List (S27)) (a1 : Int) (l2 : List Int) : Option (Int × Bool) := (spec_sqThrows.f k a0_0 a0_1 a0_2 l0_3 a1 l2).bind fun t140102 => (if t140102 = true then ((spec_sqPlay.f k a0_0 a0_1 a0_2 l0_3 a1 l2).bind fun t140103 => (if 0 ≤ (l2.length : Int) then (if (l2.length : Int) < (t140103.length : Int) then (some (rd t140103 (l2.length : Int), true)) else (none)) else (none))) else (some (0, false)))
theorem spec_PlayThrows.mono : ∀ a0 a1 a2 a3 a4 a5 k, LeO (spec_PlayThrows.f k a0 a1 a2 a3 a4 a5) (spec_PlayThrows.f (k + 1) a0 a1 a2 a3 a4 a5) := by
  intro a0 a1 a2 a3 a4 a5 k
  unfold spec_PlayThrows.f
  repeat' first
      | (with_reducible exact spec_sqPlay.mono _ _ _ _ _ _ _)
      | (with_reducible exact spec_sqThrows.mono _ _ _ _ _ _ _)
      | (with_reducible exact LeO.refl _)
      | (with_reducible exact LeO.none _)
      | (with_reducible refine LeO.ite ?_ ?_)
      | (with_reducible refine LeO.bind ?_ (fun _ => ?_))
      | exact spec_sqPlay.mono _ _ _ _ _ _ _
      | exact spec_sqThrows.mono _ _ _ _ _ _ _
      | exact LeO.none _
      | refine LeO.ite ?_ ?_
      | refine LeO.bind ?_ (fun _ => ?_)
set_option maxHeartbeats 8000000 in
set_option maxRecDepth 100000 in
theorem spec_PlayThrows.calls (k : Nat) (a0_0 : Int) (a0_1 : Int) (a0_2 : Int) (A0_3 : Option Addr) (c0_3 : Nat) (l0_3 : List (S27)) (a1 : Int) (A2 : Option Addr) (c2 : Nat) (l2 : List Int) (r1 : Int) (r2 : Bool) (w : World) (hr0_3 : Kd.C k27 w A0_3 l0_3.length l0_3) (hc0_3 : l0_3.length ≤ c0_3) (hr2 : Kd.C (Kd.int .i64) w A2 l2.length l2) (hc2 : l2.length ≤ c2) (h : spec_PlayThrows.f k a0_0 a0_1 a0_2 l0_3 a1 l2 = some (r1, r2)) :
    Calls Try.prog 70 #[.agg #[.int .i64 a0_0, .int .i64 a0_1, .int .i64 a0_2, .slice A0_3 l0_3.length c0_3], .int .i64 a1, .slice A2 l2.length c2] w fun e w' => e = .returned (.tuple #[.int .i64 r1, .bool r2]) ∧ Below w.heap.size w w' := by
  have hu32 := Try.underlying32
  have HR0_3 := Aside0.mk hr0_3
  have HC0_3 := Aside0.mk hc0_3
  clear hr0_3 hc0_3
  have HR2 := Aside0.mk hr2
  have HC2 := Aside0.mk hc2
  clear hr2 hc2
  have HB := Aside0.mk (Below.refl w.heap.size w)
  have H : ((spec_sqThrows.f k a0_0 a0_1 a0_2 l0_3 a1 l2).bind fun t140102 => (if t140102 = true then ((spec_sqPlay.f k a0_0 a0_1 a0_2 l0_3 a1 l2).bind fun t140103 => (if 0 ≤ (l2.length : Int) then (if (l2.length : Int) < (t140103.length : Int) then (some (rd t140103 (l2.length : Int), true)) else (none)) else (none))) else (some (0, false)))) = some (r1, r2) := h
  clear h
  replace H := Option.bind_eq_some_iff.mp H
  obtain ⟨t140102, A40, H⟩ := H
  replace H : (if t140102 = true then ((spec_sqPlay.f k a0_0 a0_1 a0_2 l0_3 a1 l2).bind fun t140103 => (if 0 ≤ (l2.length : Int) then (if (l2.length : Int) < (t140103.length : Int) then (some (rd t140103 (l2.length : Int), true)) else (none)) else (none))) else (some (0, false))) = some (r1, r2) := H
  have A4 := Aside0.mk A40
  clear A40
  by_cases c5 : t140102 = true
  · subst c5
    have H1 : ((spec_sqPlay.f k a0_0 a0_1 a0_2 l0_3 a1 l2).bind fun t140103 => (if 0 ≤ (l2.length : Int) then (if (l2.length : Int) < (t140103.length : Int) then (some (rd t140103 (l2.length : Int), true)) else (none)) else (none))) = some (r1, r2) := by rw [if_pos rfl] at H; exact H
    clear H
    have H := H1
    clear H1
    replace H := Option.bind_eq_some_iff.mp H
    obtain ⟨t140103, A60, H⟩ := H
    replace H : (if 0 ≤ (l2.length : Int) then (if (l2.length : Int) < (t140103.length : Int) then (some (rd t140103 (l2.length : Int), true)) else (none)) else (none)) = some (r1, r2) := H
    have A6 := Aside0.mk A60
    clear A60
    by_cases c7 : 0 ≤ (l2.length : Int)
    · rw [if_pos c7] at H
      have c7b0 : decide (0 ≤ (l2.length : Int)) = true := decide_eq_true c7
      have c7b1 : decide (0 ≤ l2.length) = true := decide_eq_true (by omega)
      clear c7
      by_cases c8 : (l2.length : Int) < (t140103.length : Int)
      · rw [if_pos c8] at H
        have c8b0 : decide ((l2.length : Int) < (t140103.length : Int)) = true := decide_eq_true c8
        have c8b1 : decide (l2.length < t140103.length) = true := decide_eq_true (Int.ofNat_lt.mp c8)
        clear c8
        simp only [Option.some.injEq, Prod.mk.injEq] at H
        obtain ⟨rfl, rfl⟩ := H
        go_enter Try.func70, Try.ntmps70
        go_wp2_with (first | ((with_reducible refine gate_dst (N := 3) rfl ?_); refine box_event ?hg (N := 3) ?hd (cs := #[.int .i64 a0_0, .int .i64 a0_1, .int .i64 a0_2, .slice A0_3 l0_3.length c0_3]) (t := 32) ?hr ?_; (case hd => rfl); (case hg => rfl); (case hr => first | (go_simp; done) | (go_simp; rfl)); intro gb140101 hg w9 hbox hb; have n0_ := Aside0.mk (below_step (by repeat (first | (with_reducible first | exact HB.out | apply below_alloc | apply pw_below_drewN | apply below_drew1) | exact HB.out)) hb); have n1_ := Aside0.mk (hbox); have n2_ := Aside0.mk ((by rw [hg]; exact (below_size (by repeat (first | (with_reducible first | exact HB.out | apply below_alloc | apply pw_below_drewN | apply below_drew1) | exact HB.out))) : w.heap.size ≤ gb140101)); have n3_ := Aside0.mk ((by rw [hg]; exact (below_size (by repeat (first | (with_reducible first | exact HB.out | apply below_alloc | apply pw_below_drewN | apply below_drew1) | exact HB.out))) : w.heap.size ≤ gb140101)); clear HB; have HB := n0_; have BK140101 := n1_; have GW140101 := n2_; have GE140101 := n3_; clear n0_ n1_ n2_ n3_; clear hb hbox hg; have hcz10_0 : w9.cell? ⟨gb140101, 0, none⟩ = some (.int .i64 a0_0) := (blk_cell BK140101.out 0).trans rfl; have hcz10_1 : w9.cell? ⟨gb140101, 1, none⟩ = some (.int .i64 a0_1) := (blk_cell BK140101.out 1).trans rfl; have hcz10_2 : w9.cell? ⟨gb140101, 2, none⟩ = some (.int .i64 a0_2) := (blk_cell BK140101.out 2).trans rfl; have hcz10_3 : w9.cell? ⟨gb140101, 3, none⟩ = some (.slice A0_3 l0_3.length c0_3) := (blk_cell BK140101.out 3).trans rfl; have hfz10_0 := blk_frozen BK140101.out 0; have hfz10_1 := blk_frozen BK140101.out 1; have hfz10_2 := blk_frozen BK140101.out 2; have hfz10_3 := blk_frozen BK140101.out 3) | ((with_reducible refine gate_callee (f := 146) rfl ?_); refine goesL_ (some 11) rfl rfl Try.func146 (by kernel_rfl) rfl #[.agg #[.int .i64 a0_0, .int .i64 a0_1, .int .i64 a0_2, .slice A0_3 l0_3.length c0_3], .int .i64 a1, .slice A2 l2.length c2] rfl (by (try simp only [List.map_toArray, List.map_cons, List.map_nil]); first | done | rfl | (simp only [List.length_drop, List.length_take]; rfl)) ?_; (with_reducible refine (spec_sqThrows.calls k a0_0 a0_1 a0_2 _ _ l0_3 a1 _ _ l2 true _ ?side1 ?side2 ?side3 ?side4 A4.out).mono ?_); (case side1 => repeat (first | exact (Kd.C_below HR0_3.out HB.out) | (with_reducible refine Kd.C_alloc ?_ _) | (with_reducible refine Kd.C_drewN ?_ _) | (with_reducible refine Kd.C_drew ?_))); (case side2 => exact HC0_3.out); (case side3 => repeat (first | exact (Kd.C_below HR2.out HB.out) | (with_reducible refine Kd.C_alloc ?_ _) | (with_reducible refine Kd.C_drewN ?_ _) | (with_reducible refine Kd.C_drew ?_))); (case side4 => exact HC2.out); rintro e w11 ⟨rfl, hb⟩; refine ⟨_, rfl, ?_⟩; have n0_ := Aside0.mk (blk_below (g := gb140101) (o := .cells #[.int .i64 a0_0, .int .i64 a0_1, .int .i64 a0_2, .slice A0_3 l0_3.length c0_3] 32 (0, 0)) (by (with_reducible repeat (first | refine blk_drewN ?_ _ | refine blk_drew ?_ | refine blk_alloc ?_ _)); exact BK140101.out) hb); have n1_ := Aside0.mk (below_step (by repeat (first | (with_reducible first | exact HB.out | apply below_alloc | apply pw_below_drewN | apply below_drew1 | refine below_set ?_ GE140101.out) | exact HB.out)) hb); clear BK140101; clear HB; have BK140101 := n0_; have HB := n1_; clear n0_ n1_; (try clear hb); (try clear hb2); (try clear hk); (try clear hi); have hcz12_0 : w11.cell? ⟨gb140101, 0, none⟩ = some (.int .i64 a0_0) := (blk_cell BK140101.out 0).trans rfl; have hcz12_1 : w11.cell? ⟨gb140101, 1, none⟩ = some (.int .i64 a0_1) := (blk_cell BK140101.out 1).trans rfl; have hcz12_2 : w11.cell? ⟨gb140101, 2, none⟩ = some (.int .i64 a0_2) := (blk_cell BK140101.out 2).trans rfl; have hcz12_3 : w11.cell? ⟨gb140101, 3, none⟩ = some (.slice A0_3 l0_3.length c0_3) := (blk_cell BK140101.out 3).trans rfl; have hfz12_0 := blk_frozen BK140101.out 0; have hfz12_1 := blk_frozen BK140101.out 1; have hfz12_2 := blk_frozen BK140101.out 2; have hfz12_3 := blk_frozen BK140101.out 3) | ((with_reducible refine gate_callee (f := 147) rfl ?_); refine goesL_ (some 16) rfl rfl Try.func147 (by kernel_rfl) rfl #[.agg #[.int .i64 a0_0, .int .i64 a0_1, .int .i64 a0_2, .slice A0_3 l0_3.length c0_3], .int .i64 a1, .slice A2 l2.length c2] rfl (by (try simp only [List.map_toArray, List.map_cons, List.map_nil]); first | done | rfl | (simp only [List.length_drop, List.length_take]; rfl)) ?_; (with_reducible refine (spec_sqPlay.calls k a0_0 a0_1 a0_2 _ _ l0_3 a1 _ _ l2 t140103 _ ?side1 ?side2 ?side3 ?side4 A6.out).mono ?_); (case side1 => repeat (first | exact (Kd.C_below HR0_3.out HB.out) | (with_reducible refine Kd.C_alloc ?_ _) | (with_reducible refine Kd.C_drewN ?_ _) | (with_reducible refine Kd.C_drew ?_))); (case side2 => exact HC0_3.out); (case side3 => repeat (first | exact (Kd.C_below HR2.out HB.out) | (with_reducible refine Kd.C_alloc ?_ _) | (with_reducible refine Kd.C_drewN ?_ _) | (with_reducible refine Kd.C_drew ?_))); (case side4 => exact HC2.out); rintro e w13 ⟨v140104, rfl, ho0, hb⟩; refine ⟨_, rfl, ?_⟩; have n0_ := Aside0.mk (Kd.R_lower ho0 (below_size (by repeat (first | (with_reducible first | exact HB.out | apply below_alloc | apply pw_below_drewN | apply below_drew1 | refine below_set ?_ GE140101.out) | exact HB.out)))); have n1_ := Aside0.mk (blk_below (g := gb140101) (o := .cells #[.int .i64 a0_0, .int .i64 a0_1, .int .i64 a0_2, .slice A0_3 l0_3.length c0_3] 32 (0, 0)) (by (with_reducible repeat (first | refine blk_drewN ?_ _ | refine blk_drew ?_ | refine blk_alloc ?_ _)); exact BK140101.out) hb); have n2_ := Aside0.mk (below_step (by repeat (first | (with_reducible first | exact HB.out | apply below_alloc | apply pw_below_drewN | apply below_drew1 | refine below_set ?_ GE140101.out) | exact HB.out)) hb); clear BK140101; clear HB; have HO140105 := n0_; have BK140101 := n1_; have HB := n2_; clear n0_ n1_ n2_; (try clear hb); (try clear hb2); (try clear hk); (try clear hi); (try clear ho0); obtain ⟨Ao14, co14, eo14⟩ := Kd.R_slice HO140105.out; subst eo14; have p140106 : 0 ≤ ((l2.length : Int) : Int) := of_decide_eq_true (by first | (with_reducible assumption) | assumption); have q140106 : (l2.length : Int) < (t140103.length : Int) := of_decide_eq_true (by first | (with_reducible assumption) | assumption); obtain ⟨ad140106, e140106, hx140106_0⟩ := Kd.at_int (Kd.R_reads' HO140105.out).2.2 (l2.length : Int) p140106 q140106; cases e140106; (try simp only [Go.IntWalk.toNatUp] at hx140106_0); replace p140106 := eq_true p140106; replace q140106 := eq_true q140106))
        go_ret2
        exact ⟨by first | rfl | (simp [errW_none, errW_some] <;> rfl) | (simp [*, errW_none, errW_some] <;> rfl), by repeat (first | (with_reducible first | exact HB.out | apply below_alloc | apply pw_below_drewN | apply below_drew1 | refine below_set ?_ GE140101.out) | exact HB.out)⟩
      · rw [if_neg c8] at H
        exact absurd H (by simp)
    · rw [if_neg c7] at H
      exact absurd H (by simp)
  · replace c5 := Bool.eq_false_iff.mpr c5
    subst c5
    have H1 : (some (0, false)) = some (r1, r2) := by rw [if_neg (show ¬ (false = true) by decide)] at H; exact H
    clear H
    have H := H1
    clear H1
    simp only [Option.some.injEq, Prod.mk.injEq] at H
    obtain ⟨rfl, rfl⟩ := H
    go_enter Try.func70, Try.ntmps70
    go_wp2_with (first | ((with_reducible refine gate_dst (N := 3) rfl ?_); refine box_event ?hg (N := 3) ?hd (cs := #[.int .i64 a0_0, .int .i64 a0_1, .int .i64 a0_2, .slice A0_3 l0_3.length c0_3]) (t := 32) ?hr ?_; (case hd => rfl); (case hg => rfl); (case hr => first | (go_simp; done) | (go_simp; rfl)); intro gb140101 hg w15 hbox hb; have n0_ := Aside0.mk (below_step (by repeat (first | (with_reducible first | exact HB.out | apply below_alloc | apply pw_below_drewN | apply below_drew1) | exact HB.out)) hb); have n1_ := Aside0.mk (hbox); have n2_ := Aside0.mk ((by rw [hg]; exact (below_size (by repeat (first | (with_reducible first | exact HB.out | apply below_alloc | apply pw_below_drewN | apply below_drew1) | exact HB.out))) : w.heap.size ≤ gb140101)); have n3_ := Aside0.mk ((by rw [hg]; exact (below_size (by repeat (first | (with_reducible first | exact HB.out | apply below_alloc | apply pw_below_drewN | apply below_drew1) | exact HB.out))) : w.heap.size ≤ gb140101)); clear HB; have HB := n0_; have BK140101 := n1_; have GW140101 := n2_; have GE140101 := n3_; clear n0_ n1_ n2_ n3_; clear hb hbox hg; have hcz16_0 : w15.cell? ⟨gb140101, 0, none⟩ = some (.int .i64 a0_0) := (blk_cell BK140101.out 0).trans rfl; have hcz16_1 : w15.cell? ⟨gb140101, 1, none⟩ = some (.int .i64 a0_1) := (blk_cell BK140101.out 1).trans rfl; have hcz16_2 : w15.cell? ⟨gb140101, 2, none⟩ = some (.int .i64 a0_2) := (blk_cell BK140101.out 2).trans rfl; have hcz16_3 : w15.cell? ⟨gb140101, 3, none⟩ = some (.slice A0_3 l0_3.length c0_3) := (blk_cell BK140101.out 3).trans rfl; have hfz16_0 := blk_frozen BK140101.out 0; have hfz16_1 := blk_frozen BK140101.out 1; have hfz16_2 := blk_frozen BK140101.out 2; have hfz16_3 := blk_frozen BK140101.out 3) | ((with_reducible refine gate_callee (f := 146) rfl ?_); refine goesL_ (some 11) rfl rfl Try.func146 (by kernel_rfl) rfl #[.agg #[.int .i64 a0_0, .int .i64 a0_1, .int .i64 a0_2, .slice A0_3 l0_3.length c0_3], .int .i64 a1, .slice A2 l2.length c2] rfl (by (try simp only [List.map_toArray, List.map_cons, List.map_nil]); first | done | rfl | (simp only [List.length_drop, List.length_take]; rfl)) ?_; (with_reducible refine (spec_sqThrows.calls k a0_0 a0_1 a0_2 _ _ l0_3 a1 _ _ l2 false _ ?side1 ?side2 ?side3 ?side4 A4.out).mono ?_); (case side1 => repeat (first | exact (Kd.C_below HR0_3.out HB.out) | (with_reducible refine Kd.C_alloc ?_ _) | (with_reducible refine Kd.C_drewN ?_ _) | (with_reducible refine Kd.C_drew ?_))); (case side2 => exact HC0_3.out); (case side3 => repeat (first | exact (Kd.C_below HR2.out HB.out) | (with_reducible refine Kd.C_alloc ?_ _) | (with_reducible refine Kd.C_drewN ?_ _) | (with_reducible refine Kd.C_drew ?_))); (case side4 => exact HC2.out); rintro e w17 ⟨rfl, hb⟩; refine ⟨_, rfl, ?_⟩; have n0_ := Aside0.mk (blk_below (g := gb140101) (o := .cells #[.int .i64 a0_0, .int .i64 a0_1, .int .i64 a0_2, .slice A0_3 l0_3.length c0_3] 32 (0, 0)) (by (with_reducible repeat (first | refine blk_drewN ?_ _ | refine blk_drew ?_ | refine blk_alloc ?_ _)); exact BK140101.out) hb); have n1_ := Aside0.mk (below_step (by repeat (first | (with_reducible first | exact HB.out | apply below_alloc | apply pw_below_drewN | apply below_drew1 | refine below_set ?_ GE140101.out) | exact HB.out)) hb); clear BK140101; clear HB; have BK140101 := n0_; have HB := n1_; clear n0_ n1_; (try clear hb); (try clear hb2); (try clear hk); (try clear hi)))
    go_ret2
    exact ⟨by first | rfl | (simp [errW_none, errW_some] <;> rfl) | (simp [*, errW_none, errW_some] <;> rfl), by repeat (first | (with_reducible first | exact HB.out | apply below_alloc | apply pw_below_drewN | apply below_drew1 | refine below_set ?_ GE140101.out) | exact HB.out)⟩

end

section
/-! ### impl_Board_path: function 155 -/
def impl_Board_path.l0 : Nat → Int → List Int → List Int → Int → Int → Int → Int → Int → List (S27) → Option (List Int)
  | 0, _, _, _, _, _, _, _, _, _ => none
  | k + 1, x1, x7, x12, x13, x14, x310102000, x310102001, x310102002, x310102003 => if x14 < x13 then (if 0 ≤ x14 then (if x14 < (x12.length : Int) then ((impl_Board_throw.f k x310102000 x310102001 x310102002 x310102003 x1 (rd x12 x14)).bind fun t310106 => (if x7.length < 17592186044416 then (impl_Board_path.l0 k t310106 (x7 ++ [t310106]) x12 x13 (wrap64 (x14 + 1)) x310102000 x310102001 x310102002 x310102003) else (none))) else (none)) else (none)) else (some x7)
def impl_Board_path.f (k : Nat) (a0_0 : Int) (a0_1 : Int) (a0_2 : Int) (l0_3 : List (S27)) (a1 : Int) (l2 : List Int) : Option (List Int) := impl_Board_path.l0 k a1 (([a1] : List Int)) l2 (l2.length : Int) 0 a0_0 a0_1 a0_2 l0_3
theorem impl_Board_path.mono_l : ∀ k, (∀ y0 y1 y2 y3 y4 y5 y6 y7 y8, LeO (impl_Board_path.l0 k y0 y1 y2 y3 y4 y5 y6 y7 y8) (impl_Board_path.l0 (k + 1) y0 y1 y2 y3 y4 y5 y6 y7 y8))
  | 0 => fun _ _ _ _ _ _ _ _ _ r h => by simp [impl_Board_path.l0] at h
  | k + 1 => by
    have ih0 := impl_Board_path.mono_l k
    · intro y0 y1 y2 y3 y4 y5 y6 y7 y8
      unfold impl_Board_path.l0
      repeat' first
      | (with_reducible exact ih0 _ _ _ _ _ _ _ _ _)
      | (with_reducible exact impl_Board_throw.mono _ _ _ _ _ _ _)
      | (with_reducible exact LeO.refl _)
      | (with_reducible exact LeO.none _)
      | (with_reducible refine LeO.ite ?_ ?_)
      | (with_reducible refine LeO.bind ?_ (fun _ => ?_))
      | exact ih0 _ _ _ _ _ _ _ _ _
      | exact impl_Board_throw.mono _ _ _ _ _ _ _
      | exact LeO.none _
      | refine LeO.ite ?_ ?_
      | refine LeO.bind ?_ (fun _ => ?_)
theorem impl_Board_path.mono : ∀ a0 a1 a2 a3 a4 a5 k, LeO (impl_Board_path.f k a0 a1 a2 a3 a4 a5) (impl_Board_path.f (k + 1) a0 a1 a2 a3 a4 a5) := by
  intro a0 a1 a2 a3 a4 a5 k
  have ih0 := impl_Board_path.mono_l k
  unfold impl_Board_path.f
  repeat' first
      | (with_reducible exact ih0 _ _ _ _ _ _ _ _ _)
      | (with_reducible exact impl_Board_throw.mono _ _ _ _ _ _ _)
      | (with_reducible exact LeO.refl _)
      | (with_reducible exact LeO.none _)
      | (with_reducible refine LeO.ite ?_ ?_)
      | (with_reducible refine LeO.bind ?_ (fun _ => ?_))
      | exact ih0 _ _ _ _ _ _ _ _ _
      | exact impl_Board_throw.mono _ _ _ _ _ _ _
      | exact LeO.none _
      | refine LeO.ite ?_ ?_
      | refine LeO.bind ?_ (fun _ => ?_)
set_option maxHeartbeats 8000000 in
set_option maxRecDepth 100000 in
theorem impl_Board_path.calls (k : Nat) (a0_0 : Int) (a0_1 : Int) (a0_2 : Int) (A0_3 : Option Addr) (c0_3 : Nat) (l0_3 : List (S27)) (a1 : Int) (A2 : Option Addr) (c2 : Nat) (l2 : List Int) (r : List Int) (w : World) (hr0_3 : Kd.C k27 w A0_3 l0_3.length l0_3) (hc0_3 : l0_3.length ≤ c0_3) (hr2 : Kd.C (Kd.int .i64) w A2 l2.length l2) (hc2 : l2.length ≤ c2) (h : impl_Board_path.f k a0_0 a0_1 a0_2 l0_3 a1 l2 = some r) :
    Calls Try.prog 155 #[.agg #[.int .i64 a0_0, .int .i64 a0_1, .int .i64 a0_2, .slice A0_3 l0_3.length c0_3], .int .i64 a1, .slice A2 l2.length c2] w fun e w' => ∃ v0_ : Value, e = .returned (v0_) ∧ Kd.R (Kd.int .i64) 3 w' w.heap.size (fun _ => True) v0_ r ∧ Below w.heap.size w w' := by
  have hu32 := Try.underlying32
  have HR0_3 := Aside0.mk hr0_3
  have HC0_3 := Aside0.mk hc0_3
  clear hr0_3 hc0_3
  have HR2 := Aside0.mk hr2
  have HC2 := Aside0.mk hc2
  clear hr2 hc2
  have HB := Aside0.mk (Below.refl w.heap.size w)
  have H : (impl_Board_path.l0 k a1 (([a1] : List Int)) l2 (l2.length : Int) 0 a0_0 a0_1 a0_2 l0_3) = some r := h
  clear h
  obtain ⟨y310102, hy310102⟩ : ∃ y_ : List Int, y_ = (([a1] : List Int)) := ⟨_, rfl⟩
  replace H : (impl_Board_path.l0 k a1 y310102 l2 (l2.length : Int) 0 a0_0 a0_1 a0_2 l0_3) = some r := by first | (rw [hy310102]; with_reducible exact H) | (have H2_ := (Option.bind_some _ _).symm.trans H; rw [hy310102]; with_reducible exact H2_) | (have H2_ := (Option.bind_some _ _).symm.trans H; with_reducible exact H2_) | with_reducible exact H | (rw [hy310102]; exact H) | exact H
  have Ny310102 := Aside0.mk hy310102
  clear hy310102
  have H' := Aside0.mk H
  clear H
  go_enter Try.func155, Try.ntmps155
  go_wp2_with (first | ((with_reducible refine gate_dst (N := 3) rfl ?_); refine box_event ?hg (N := 3) ?hd (cs := #[.int .i64 a0_0, .int .i64 a0_1, .int .i64 a0_2, .slice A0_3 l0_3.length c0_3]) (t := 32) ?hr ?_; (case hd => rfl); (case hg => rfl); (case hr => first | (go_simp; done) | (go_simp; rfl)); intro gb310101 hg w4 hbox hb; have n0_ := Aside0.mk (below_step (by repeat (first | (with_reducible first | exact HB.out | apply below_alloc | apply pw_below_drewN | apply below_drew1) | exact HB.out)) hb); have n1_ := Aside0.mk (hbox); have n2_ := Aside0.mk ((by rw [hg]; exact (below_size (by repeat (first | (with_reducible first | exact HB.out | apply below_alloc | apply pw_below_drewN | apply below_drew1) | exact HB.out))) : w.heap.size ≤ gb310101)); have n3_ := Aside0.mk ((by rw [hg]; exact (below_size (by repeat (first | (with_reducible first | exact HB.out | apply below_alloc | apply pw_below_drewN | apply below_drew1) | exact HB.out))) : w.heap.size ≤ gb310101)); clear HB; have HB := n0_; have BK310101 := n1_; have GW310101 := n2_; have GE310101 := n3_; clear n0_ n1_ n2_ n3_; clear hb hbox hg) | ((with_reducible refine gate_dst (N := 11) rfl ?_); refine Kd.R_lit (Kd.int .i64) _ 3 ?hg (N := 11) ?hd (xs := ([a1] : List Int)) (inner := [.int .i64 a1]) (ok := fun _ => True) (okp := fun _ => True) ?hr ?hp (fun _ hk => hk) trivial (Below.refl _ _) (Nat.le_refl _) (by simp) ?_; (case hd => rfl); (case hg => rfl); (case hr => first | (go_simp; done) | (go_simp; rfl)); (case hp => exact (Reps.one (show Kd.M (Kd.int .i64) _ _ _ a1 [.int .i64 a1] from rfl) (Reps.none _ _))); intro v310103 w5 ho6 hb hg_ hnew_; clear hg_ hnew_; (first | rw [← Ny310102.out] at ho6 | (simp only [Int.reduceToNat] at ho6; rw [← Ny310102.out] at ho6)); have n0_ := Aside0.mk (Kd.R_lower ho6 (below_size (by repeat (first | (with_reducible first | exact HB.out | apply below_alloc | apply pw_below_drewN | apply below_drew1 | refine below_set ?_ GE310101.out) | exact HB.out)))); have n1_ := Aside0.mk (blk_below (g := gb310101) (o := .cells #[.int .i64 a0_0, .int .i64 a0_1, .int .i64 a0_2, .slice A0_3 l0_3.length c0_3] 32 (0, 0)) (by (with_reducible repeat (first | refine blk_drewN ?_ _ | refine blk_drew ?_ | refine blk_alloc ?_ _)); exact BK310101.out) hb); have n2_ := Aside0.mk (below_step (by repeat (first | (with_reducible first | exact HB.out | apply below_alloc | apply pw_below_drewN | apply below_drew1 | refine below_set ?_ GE310101.out) | exact HB.out)) hb); clear BK310101; clear HB; have HO310104 := n0_; have BK310101 := n1_; have HB := n2_; clear n0_ n1_ n2_; clear hb ho6))
  go_loopg [1, 7, 14] k (fun kq v1 v7 v14 w' => ∃ (x1_1 : Int) (x7_1 : List Int) (x14_1 : Int), v1 = .int .i64 x1_1 ∧ v14 = .int .i64 x14_1 ∧ Aside0 (impl_Board_path.l0 kq x1_1 x7_1 l2 (l2.length : Int) x14_1 a0_0 a0_1 a0_2 l0_3 = some r) ∧ Aside0 (kq ≤ k) ∧ Aside0 (Kd.R (Kd.int .i64) 3 w' w.heap.size (fun _ => True) v7 x7_1) ∧ Aside0 (w'.heap[gb310101]? = some (.cells #[.int .i64 a0_0, .int .i64 a0_1, .int .i64 a0_2, (.slice A0_3 l0_3.length c0_3)] 32 (0, 0))) ∧ Aside0 (Below w.heap.size w w'))
  case atStart => exact ⟨(a1), (y310102), (0), (by first | rfl | (simp; done) | (simp [*]; done)), (by first | rfl | (simp; done) | (simp [*]; done)), H', ⟨Nat.le_refl _⟩, ⟨by (with_reducible repeat (first | apply Kd.R_alloc | apply Kd.R_drewN | apply Kd.R_drew)); exact HO310104.out⟩, ⟨by (with_reducible repeat (first | refine blk_drewN ?_ _ | refine blk_drew ?_ | refine blk_alloc ?_ _)); exact BK310101.out⟩, ⟨by repeat (first | (with_reducible first | exact HB.out | apply below_alloc | apply pw_below_drewN | apply below_drew1 | refine below_set ?_ GE310101.out) | exact HB.out)⟩⟩
  case round =>
    clear H'
    try clear c1
    try clear c2
    try clear p2
    obtain ⟨x1_1, x7_1, x14_1, rfl, rfl, HA, HK1, HO_7, BK310101, HB⟩ := hrel
    cases gk with
    | zero => exact absurd HA.out (by simp [impl_Board_path.l0])
    | succ k1 =>
      have H := HA.out
      clear HA
      simp only [impl_Board_path.l0] at H
      by_cases c7 : x14_1 < (l2.length : Int)
      · rw [if_pos c7] at H
        have c7b0 : decide (x14_1 < (l2.length : Int)) = true := decide_eq_true c7
        clear c7
        by_cases c8 : 0 ≤ x14_1
        · rw [if_pos c8] at H
          have c8b0 : decide (0 ≤ x14_1) = true := decide_eq_true c8
          clear c8
          by_cases c9 : x14_1 < (l2.length : Int)
          · rw [if_pos c9] at H
            have c9b0 : decide (x14_1 < (l2.length : Int)) = true := decide_eq_true c9
            clear c9
            replace H := Option.bind_eq_some_iff.mp H
            obtain ⟨t310106, A100, H⟩ := H
            replace H : (if x7_1.length < 17592186044416 then (impl_Board_path.l0 k1 t310106 (x7_1 ++ [t310106]) l2 (l2.length : Int) (wrap64 (x14_1 + 1)) a0_0 a0_1 a0_2 l0_3) else (none)) = some r := H
            have A10 := Aside0.mk A100
            clear A100
            by_cases c11 : x7_1.length < 17592186044416
            · rw [if_pos c11] at H
              have LMc11 := Aside0.mk c11
              clear c11
              obtain ⟨y310107, hy310107⟩ : ∃ y_ : List Int, y_ = (x7_1 ++ [t310106]) := ⟨_, rfl⟩
              replace H : (impl_Board_path.l0 k1 t310106 y310107 l2 (l2.length : Int) (wrap64 (x14_1 + 1)) a0_0 a0_1 a0_2 l0_3) = some r := by first | (rw [hy310107]; with_reducible exact H) | (have H2_ := (Option.bind_some _ _).symm.trans H; rw [hy310107]; with_reducible exact H2_) | (have H2_ := (Option.bind_some _ _).symm.trans H; with_reducible exact H2_) | with_reducible exact H | (rw [hy310107]; exact H) | exact H
              have Ny310107 := Aside0.mk hy310107
              clear hy310107
              have H' := Aside0.mk H
              clear H
              have p310105 : 0 ≤ (x14_1 : Int) := of_decide_eq_true (by first | (with_reducible assumption) | assumption)
              have q310105 : x14_1 < (l2.length : Int) := of_decide_eq_true (by first | (with_reducible assumption) | assumption)
              obtain ⟨ad310105, e310105, hx310105_0⟩ := Kd.at_int HR2.out x14_1 p310105 q310105
              cases e310105
              first | (replace hx310105_0 := (HB.out.cell (World.block_lt_of_cell? w _ hx310105_0)).trans hx310105_0) | skip
              replace p310105 := eq_true p310105
              replace q310105 := eq_true q310105
              have hcz12_0 : wr.cell? ⟨gb310101, 0, none⟩ = some (.int .i64 a0_0) := (blk_cell BK310101.out 0).trans rfl
              have hcz12_1 : wr.cell? ⟨gb310101, 1, none⟩ = some (.int .i64 a0_1) := (blk_cell BK310101.out 1).trans rfl
              have hcz12_2 : wr.cell? ⟨gb310101, 2, none⟩ = some (.int .i64 a0_2) := (blk_cell BK310101.out 2).trans rfl
              have hcz12_3 : wr.cell? ⟨gb310101, 3, none⟩ = some (.slice A0_3 l0_3.length c0_3) := (blk_cell BK310101.out 3).trans rfl
              have hfz12_0 := blk_frozen BK310101.out 0
              have hfz12_1 := blk_frozen BK310101.out 1
              have hfz12_2 := blk_frozen BK310101.out 2
              have hfz12_3 := blk_frozen BK310101.out 3
              go_wp2_with (first | ((with_reducible refine gate_callee (f := 138) rfl ?_); refine goesL_ (some 21) rfl rfl Try.func138 (by kernel_rfl) rfl #[.agg #[.int .i64 a0_0, .int .i64 a0_1, .int .i64 a0_2, .slice A0_3 l0_3.length c0_3], .int .i64 x1_1, .int .i64 (rd l2 x14_1)] rfl (by (try simp only [List.map_toArray, List.map_cons, List.map_nil]); first | done | rfl | (simp only [List.length_drop, List.length_take]; rfl)) ?_; (with_reducible refine (impl_Board_throw.calls k1 a0_0 a0_1 a0_2 _ _ l0_3 x1_1 (rd l2 x14_1) t310106 _ ?side1 ?side2 A10.out).mono ?_); (case side1 => repeat (first | exact (Kd.C_below HR0_3.out HB.out) | (with_reducible refine Kd.C_alloc ?_ _) | (with_reducible refine Kd.C_drewN ?_ _) | (with_reducible refine Kd.C_drew ?_))); (case side2 => exact HC0_3.out); rintro e w13 ⟨rfl, hb⟩; refine ⟨_, rfl, ?_⟩; have n0_ := Aside0.mk (Kd.R_below (by (with_reducible repeat (first | apply Kd.R_alloc | apply Kd.R_drewN | apply Kd.R_drew)); exact HO_7.out) hb); have n1_ := Aside0.mk (blk_below (g := gb310101) (o := .cells #[.int .i64 a0_0, .int .i64 a0_1, .int .i64 a0_2, .slice A0_3 l0_3.length c0_3] 32 (0, 0)) (by (with_reducible repeat (first | refine blk_drewN ?_ _ | refine blk_drew ?_ | refine blk_alloc ?_ _)); exact BK310101.out) hb); have n2_ := Aside0.mk (below_step (by repeat (first | (with_reducible first | exact HB.out | apply below_alloc | apply pw_below_drewN | apply below_drew1 | refine below_set ?_ GE310101.out) | exact HB.out)) hb); clear HO_7; clear BK310101; clear HB; have HO_7 := n0_; have BK310101 := n1_; have HB := n2_; clear n0_ n1_ n2_; (try clear hb); (try clear hb2); (try clear hk); (try clear hi)) | ((with_reducible refine gate_builtin (b := .append) (xs := #[.tmp 22, .tmp 24]) rfl ?_); at_builtin; refine Kd.R_append (Kd.int .i64) (w0 := w) w.heap.size rfl (.tmp 22) (.tmp 24) 58 3 (.int .i64 0) 8 rfl Try.underlying58 info3 rfl (by decide) (by omega) u7 x7_1 t310106 [.int .i64 t310106] (fun _ => True) (fun _ => False) rfl rfl ?aP (fun _ hk => hk.elim) ?aF ?aO ?aB ?aS ?aL ?_; (case aP => exact rfl); (case aB => exact (by repeat (first | (with_reducible first | exact HB.out | apply below_alloc | apply pw_below_drewN | apply below_drew1 | refine below_set ?_ GE310101.out) | exact HB.out))); (case aF => exact (fun _ _ => trivial)); (case aO => exact (by (with_reducible repeat (first | apply Kd.R_alloc | apply Kd.R_drewN | apply Kd.R_drew)); exact HO_7.out)); (case aS => exact (below_size (by repeat (first | (with_reducible first | exact HB.out | apply below_alloc | apply pw_below_drewN | apply below_drew1 | refine below_set ?_ GE310101.out) | exact HB.out)))); (case aL => have := LMc11.out; omega); intro v310108 w14 ho hb hg hat; rw [← Ny310107.out] at ho; have n0_ := Aside0.mk (blk_grown (g := gb310101) (o := .cells #[.int .i64 a0_0, .int .i64 a0_1, .int .i64 a0_2, .slice A0_3 l0_3.length c0_3] 32 (0, 0)) (by (with_reducible repeat (first | refine blk_drewN ?_ _ | refine blk_drew ?_ | refine blk_alloc ?_ _)); exact BK310101.out) hg (Kd.R_ne HO_7.out BK310101.out (by decide))); have n1_ := Aside0.mk (hb); have n2_ := Aside0.mk (ho); clear BK310101; clear HB; clear HO_7; have BK310101 := n0_; have HB := n1_; have HO310109 := n2_; clear n0_ n1_ n2_; clear ho hb hg hat))
              go_roundg k1
              case measure => have := HK1.out; omega
              case rel => exact ⟨(t310106), (y310107), (wrap64 (x14_1 + 1)), (by first | rfl | (simp; done) | (simp [*]; done)), (by first | rfl | (simp; done) | (simp [*]; done)), H', ⟨by have := HK1.out; omega⟩, ⟨by (with_reducible repeat (first | apply Kd.R_alloc | apply Kd.R_drewN | apply Kd.R_drew)); exact HO310109.out⟩, ⟨by (with_reducible repeat (first | refine blk_drewN ?_ _ | refine blk_drew ?_ | refine blk_alloc ?_ _)); exact BK310101.out⟩, ⟨by repeat (first | (with_reducible first | exact HB.out | apply below_alloc | apply pw_below_drewN | apply below_drew1 | refine below_set ?_ GE310101.out) | exact HB.out)⟩⟩
            · rw [if_neg c11] at H
              exact absurd H (by simp)
          · rw [if_neg c9] at H
            exact absurd H (by simp)
        · rw [if_neg c8] at H
          exact absurd H (by simp)
      · rw [if_neg c7] at H
        have c7b0 : decide (x14_1 < (l2.length : Int)) = false := decide_eq_false c7
        clear c7
        obtain rfl := Option.some.inj H
        go_wp2
        go_ret
        exact ⟨_, by first | rfl | (simp [errW_none, errW_some] <;> rfl) | (simp [*, errW_none, errW_some] <;> rfl), by (with_reducible repeat (first | apply Kd.R_alloc | apply Kd.R_drewN | apply Kd.R_drew)); exact HO_7.out, by repeat (first | (with_reducible first | exact HB.out | apply below_alloc | apply pw_below_drewN | apply below_drew1 | refine below_set ?_ GE310101.out) | exact HB.out)⟩

end

section
/-! ### impl_PathOfThrows: function 82 -/
def impl_PathOfThrows.f (k : Nat) (a0_0 : Int) (a0_1 : Int) (a0_2 : Int) (l0_3 : List (S27)) (a1 : Int) (l2 : List Int) : Option (List Int × Bool) := (impl_areSquares.f k a0_0 a0_1 a0_2 l0_3 (([a1] : List Int))).bind fun t164105 => (if t164105 = true then ((impl_Board_areThrows.f a0_0 a0_1 a0_2 l0_3 l2).bind fun t164106 => (if t164106 = true then ((impl_Board_path.f k a0_0 a0_1 a0_2 l0_3 a1 l2).bind fun t164107 => (some (t164107, true))) else (some (([] : List Int), false)))) else (some (([] : List Int), false)))
theorem impl_PathOfThrows.mono : ∀ a0 a1 a2 a3 a4 a5 k, LeO (impl_PathOfThrows.f k a0 a1 a2 a3 a4 a5) (impl_PathOfThrows.f (k + 1) a0 a1 a2 a3 a4 a5) := by
  intro a0 a1 a2 a3 a4 a5 k
  unfold impl_PathOfThrows.f
  repeat' first
      | (with_reducible exact impl_Board_path.mono _ _ _ _ _ _ _)
      | (with_reducible exact impl_areSquares.mono _ _ _ _ _ _)
      | (with_reducible exact LeO.refl _)
      | (with_reducible exact LeO.none _)
      | (with_reducible refine LeO.ite ?_ ?_)
      | (with_reducible refine LeO.bind ?_ (fun _ => ?_))
      | exact impl_Board_path.mono _ _ _ _ _ _ _
      | exact impl_areSquares.mono _ _ _ _ _ _
      | exact LeO.none _
      | refine LeO.ite ?_ ?_
      | refine LeO.bind ?_ (fun _ => ?_)
set_option maxHeartbeats 8000000 in
set_option maxRecDepth 100000 in
theorem impl_PathOfThrows.calls (k : Nat) (a0_0 : Int) (a0_1 : Int) (a0_2 : Int) (A0_3 : Option Addr) (c0_3 : Nat) (l0_3 : List (S27)) (a1 : Int) (A2 : Option Addr) (c2 : Nat) (l2 : List Int) (r1 : List Int) (r2 : Bool) (w : World) (hr0_3 : Kd.C k27 w A0_3 l0_3.length l0_3) (hc0_3 : l0_3.length ≤ c0_3) (hr2 : Kd.C (Kd.int .i64) w A2 l2.length l2) (hc2 : l2.length ≤ c2) (h : impl_PathOfThrows.f k a0_0 a0_1 a0_2 l0_3 a1 l2 = some (r1, r2)) :
    Calls Try.prog 82 #[.agg #[.int .i64 a0_0, .int .i64 a0_1, .int .i64 a0_2, .slice A0_3 l0_3.length c0_3], .int .i64 a1, .slice A2 l2.length c2] w fun e w' => ∃ v0_ : Value, e = .returned (.tuple #[v0_, .bool r2]) ∧ Kd.R (Kd.int .i64) 3 w' w.heap.size (fun _ => True) v0_ r1 ∧ Below w.heap.size w w' := by
  have hu32 := Try.underlying32
  have HR0_3 := Aside0.mk hr0_3
  have HC0_3 := Aside0.mk hc0_3
  clear hr0_3 hc0_3
  have HR2 := Aside0.mk hr2
  have HC2 := Aside0.mk hc2
  clear hr2 hc2
  have HB := Aside0.mk (Below.refl w.heap.size w)
  have H : ((impl_areSquares.f k a0_0 a0_1 a0_2 l0_3 (([a1] : List Int))).bind fun t164105 => (if t164105 = true then ((impl_Board_areThrows.f a0_0 a0_1 a0_2 l0_3 l2).bind fun t164106 => (if t164106 = true then ((impl_Board_path.f k a0_0 a0_1 a0_2 l0_3 a1 l2).bind fun t164107 => (some (t164107, true))) else (some (([] : List Int), false)))) else (some (([] : List Int), false)))) = some (r1, r2) := h
  clear h
  obtain ⟨y164102, hy164102⟩ : ∃ y_ : List Int, y_ = (([a1] : List Int)) := ⟨_, rfl⟩
  replace H : ((impl_areSquares.f k a0_0 a0_1 a0_2 l0_3 y164102).bind fun t164105 => (if t164105 = true then ((impl_Board_areThrows.f a0_0 a0_1 a0_2 l0_3 l2).bind fun t164106 => (if t164106 = true then ((impl_Board_path.f k a0_0 a0_1 a0_2 l0_3 a1 l2).bind fun t164107 => (some (t164107, true))) else (some (([] : List Int), false)))) else (some (([] : List Int), false)))) = some (r1, r2) := by first | (rw [hy164102]; with_reducible exact H) | (have H2_ := (Option.bind_some _ _).symm.trans H; rw [hy164102]; with_reducible exact H2_) | (have H2_ := (Option.bind_some _ _).symm.trans H; with_reducible exact H2_) | with_reducible exact H | (rw [hy164102]; exact H) | exact H
  have Ny164102 := Aside0.mk hy164102
  clear hy164102
  replace H := Option.bind_eq_some_iff.mp H
  obtain ⟨t164105, A40, H⟩ := H
  replace H : (if t164105 = true then ((impl_Board_areThrows.f a0_0 a0_1 a0_2 l0_3 l2).bind fun t164106 => (if t164106 = true then ((impl_Board_path.f k a0_0 a0_1 a0_2 l0_3 a1 l2).bind fun t164107 => (some (t164107, true))) else (some (([] : List Int), false)))) else (some (([] : List Int), false))) = some (r1, r2) := H
  have A4 := Aside0.mk A40
  clear A40
  by_cases c5 : t164105 = true
  · subst c5
    have H1 : ((impl_Board_areThrows.f a0_0 a0_1 a0_2 l0_3 l2).bind fun t164106 => (if t164106 = true then ((impl_Board_path.f k a0_0 a0_1 a0_2 l0_3 a1 l2).bind fun t164107 => (some (t164107, true))) else (some (([] : List Int), false)))) = some (r1, r2) := by rw [if_pos rfl] at H; exact H
    clear H
    have H := H1
    clear H1
    replace H := Option.bind_eq_some_iff.mp H
    obtain ⟨t164106, A60, H⟩ := H
    replace H : (if t164106 = true then ((impl_Board_path.f k a0_0 a0_1 a0_2 l0_3 a1 l2).bind fun t164107 => (some (t164107, true))) else (some (([] : List Int), false))) = some (r1, r2) := H
    have A6 := Aside0.mk A60
    clear A60
    by_cases c7 : t164106 = true
    · subst c7
      have H1 : ((impl_Board_path.f k a0_0 a0_1 a0_2 l0_3 a1 l2).bind fun t164107 => (some (t164107, true))) = some (r1, r2) := by rw [if_pos rfl] at H; exact H
      clear H
      have H := H1
      clear H1
      replace H := Option.bind_eq_some_iff.mp H
      obtain ⟨t164107, A80, H⟩ := H
      replace H : (some (t164107, true)) = some (r1, r2) := H
      have A8 := Aside0.mk A80
      clear A80
      simp only [Option.some.injEq, Prod.mk.injEq] at H
      obtain ⟨rfl, rfl⟩ := H
      go_enter Try.func82, Try.ntmps82
      go_wp2_with (first | ((with_reducible refine gate_dst (N := 3) rfl ?_); refine box_event ?hg (N := 3) ?hd (cs := #[.int .i64 a0_0, .int .i64 a0_1, .int .i64 a0_2, .slice A0_3 l0_3.length c0_3]) (t := 32) ?hr ?_; (case hd => rfl); (case hg => rfl); (case hr => first | (go_simp; done) | (go_simp; rfl)); intro gb164101 hg w9 hbox hb; have n0_ := Aside0.mk (below_step (by repeat (first | (with_reducible first | exact HB.out | apply below_alloc | apply pw_below_drewN | apply below_drew1) | exact HB.out)) hb); have n1_ := Aside0.mk (hbox); have n2_ := Aside0.mk ((by rw [hg]; exact (below_size (by repeat (first | (with_reducible first | exact HB.out | apply below_alloc | apply pw_below_drewN | apply below_drew1) | exact HB.out))) : w.heap.size ≤ gb164101)); have n3_ := Aside0.mk ((by rw [hg]; exact (below_size (by repeat (first | (with_reducible first | exact HB.out | apply below_alloc | apply pw_below_drewN | apply below_drew1) | exact HB.out))) : w.heap.size ≤ gb164101)); clear HB; have HB := n0_; have BK164101 := n1_; have GW164101 := n2_; have GE164101 := n3_; clear n0_ n1_ n2_ n3_; clear hb hbox hg; have hcz10_0 : w9.cell? ⟨gb164101, 0, none⟩ = some (.int .i64 a0_0) := (blk_cell BK164101.out 0).trans rfl; have hcz10_1 : w9.cell? ⟨gb164101, 1, none⟩ = some (.int .i64 a0_1) := (blk_cell BK164101.out 1).trans rfl; have hcz10_2 : w9.cell? ⟨gb164101, 2, none⟩ = some (.int .i64 a0_2) := (blk_cell BK164101.out 2).trans rfl; have hcz10_3 : w9.cell? ⟨gb164101, 3, none⟩ = some (.slice A0_3 l0_3.length c0_3) := (blk_cell BK164101.out 3).trans rfl; have hfz10_0 := blk_frozen BK164101.out 0; have hfz10_1 := blk_frozen BK164101.out 1; have hfz10_2 := blk_frozen BK164101.out 2; have hfz10_3 := blk_frozen BK164101.out 3) | ((with_reducible refine gate_dst (N := 10) rfl ?_); refine Kd.R_lit (Kd.int .i64) _ 3 ?hg (N := 10) ?hd (xs := ([a1] : List Int)) (inner := [.int .i64 a1]) (ok := fun _ => True) (okp := fun _ => True) ?hr ?hp (fun _ hk => hk) trivial (Below.refl _ _) (Nat.le_refl _) (by simp) ?_; (case hd => rfl); (case hg => rfl); (case hr => first | (go_simp; done) | (go_simp; rfl)); (case hp => exact (Reps.one (show Kd.M (Kd.int .i64) _ _ _ a1 [.int .i64 a1] from rfl) (Reps.none _ _))); intro v164103 w11 ho12 hb hg_ hnew_; clear hg_ hnew_; (first | rw [← Ny164102.out] at ho12 | (simp only [Int.reduceToNat] at ho12; rw [← Ny164102.out] at ho12)); have n0_ := Aside0.mk (Kd.R_lower ho12 (below_size (by repeat (first | (with_reducible first | exact HB.out | apply below_alloc | apply pw_below_drewN | apply below_drew1 | refine below_set ?_ GE164101.out) | exact HB.out)))); have n1_ := Aside0.mk (blk_below (g := gb164101) (o := .cells #[.int .i64 a0_0, .int .i64 a0_1, .int .i64 a0_2, .slice A0_3 l0_3.length c0_3] 32 (0, 0)) (by (with_reducible repeat (first | refine blk_drewN ?_ _ | refine blk_drew ?_ | refine blk_alloc ?_ _)); exact BK164101.out) hb); have n2_ := Aside0.mk (below_step (by repeat (first | (with_reducible first | exact HB.out | apply below_alloc | apply pw_below_drewN | apply below_drew1 | refine below_set ?_ GE164101.out) | exact HB.out)) hb); clear BK164101; clear HB; have HO164104 := n0_; have BK164101 := n1_; have HB := n2_; clear n0_ n1_ n2_; clear hb ho12; obtain ⟨Ao13, co13, eo13⟩ := Kd.R_slice HO164104.out; subst eo13) | ((with_reducible refine gate_callee (f := 134) rfl ?_); refine goesL_ (some 11) rfl rfl Try.func134 (by kernel_rfl) rfl #[.agg #[.int .i64 a0_0, .int .i64 a0_1, .int .i64 a0_2, .slice A0_3 l0_3.length c0_3], .slice Ao13 y164102.length co13] rfl (by (try simp only [List.map_toArray, List.map_cons, List.map_nil]); first | done | rfl | (simp only [List.length_drop, List.length_take]; rfl)) ?_; (with_reducible refine (impl_areSquares.calls k a0_0 a0_1 a0_2 _ _ l0_3 _ _ y164102 true _ ?side1 ?side2 ?side3 ?side4 A4.out).mono ?_); (case side1 => repeat (first | exact (Kd.C_below HR0_3.out HB.out) | (with_reducible refine Kd.C_alloc ?_ _) | (with_reducible refine Kd.C_drewN ?_ _) | (with_reducible refine Kd.C_drew ?_))); (case side2 => exact HC0_3.out); (case side3 => repeat (first | exact (Kd.R_reads' HO164104.out).2.2 | (with_reducible refine Kd.C_alloc ?_ _) | (with_reducible refine Kd.C_drewN ?_ _) | (with_reducible refine Kd.C_drew ?_))); (case side4 => exact (Kd.R_reads' HO164104.out).2.1); rintro e w14 ⟨rfl, hb⟩; refine ⟨_, rfl, ?_⟩; have n0_ := Aside0.mk (Kd.R_below (by (with_reducible repeat (first | apply Kd.R_alloc | apply Kd.R_drewN | apply Kd.R_drew)); exact HO164104.out) hb); have n1_ := Aside0.mk (blk_below (g := gb164101) (o := .cells #[.int .i64 a0_0, .int .i64 a0_1, .int .i64 a0_2, .slice A0_3 l0_3.length c0_3] 32 (0, 0)) (by (with_reducible repeat (first | refine blk_drewN ?_ _ | refine blk_drew ?_ | refine blk_alloc ?_ _)); exact BK164101.out) hb); have n2_ := Aside0.mk (below_step (by repeat (first | (with_reducible first | exact HB.out | apply below_alloc | apply pw_below_drewN | apply below_drew1 | refine below_set ?_ GE164101.out) | exact HB.out)) hb); clear HO164104; clear BK164101; clear HB; have HO164104 := n0_; have BK164101 := n1_; have HB := n2_; clear n0_ n1_ n2_; (try clear hb); (try clear hb2); (try clear hk); (try clear hi); have hcz15_0 : w14.cell? ⟨gb164101, 0, none⟩ = some (.int .i64 a0_0) := (blk_cell BK164101.out 0).trans rfl; have hcz15_1 : w14.cell? ⟨gb164101, 1, none⟩ = some (.int .i64 a0_1) := (blk_cell BK164101.out 1).trans rfl; have hcz15_2 : w14.cell? ⟨gb164101, 2, none⟩ = some (.int .i64 a0_2) := (blk_cell BK164101.out 2).trans rfl; have hcz15_3 : w14.cell? ⟨gb164101, 3, none⟩ = some (.slice A0_3 l0_3.length c0_3) := (blk_cell BK164101.out 3).trans rfl; have hfz15_0 := blk_frozen BK164101.out 0; have hfz15_1 := blk_frozen BK164101.out 1; have hfz15_2 := blk_frozen BK164101.out 2; have hfz15_3 := blk_frozen BK164101.out 3) | (go_at_call 154; (with_reducible refine (impl_Board_areThrows.calls a0_0 a0_1 a0_2 _ _ l0_3 _ _ l2 true _ ?side1 ?side2 ?side3 ?side4 A6.out).mono ?_); (case side1 => repeat (first | exact (Kd.C_below HR0_3.out HB.out) | (with_reducible refine Kd.C_alloc ?_ _) | (with_reducible refine Kd.C_drewN ?_ _) | (with_reducible refine Kd.C_drew ?_))); (case side2 => exact HC0_3.out); (case side3 => repeat (first | exact (Kd.C_below HR2.out HB.out) | (with_reducible refine Kd.C_alloc ?_ _) | (with_reducible refine Kd.C_drewN ?_ _) | (with_reducible refine Kd.C_drew ?_))); (case side4 => exact HC2.out); rintro e w16 ⟨rfl, hb⟩; have n0_ := Aside0.mk (Kd.R_below (by (with_reducible repeat (first | apply Kd.R_alloc | apply Kd.R_drewN | apply Kd.R_drew)); exact HO164104.out) hb); have n1_ := Aside0.mk (blk_below (g := gb164101) (o := .cells #[.int .i64 a0_0, .int .i64 a0_1, .int .i64 a0_2, .slice A0_3 l0_3.length c0_3] 32 (0, 0)) (by (with_reducible repeat (first | refine blk_drewN ?_ _ | refine blk_drew ?_ | refine blk_alloc ?_ _)); exact BK164101.out) hb); have n2_ := Aside0.mk (below_step (by repeat (first | (with_reducible first | exact HB.out | apply below_alloc | apply pw_below_drewN | apply below_drew1 | refine below_set ?_ GE164101.out) | exact HB.out)) hb); clear HO164104; clear BK164101; clear HB; have HO164104 := n0_; have BK164101 := n1_; have HB := n2_; clear n0_ n1_ n2_; (try clear hb); (try clear hb2); (try clear hk); (try clear hi); have hcz17_0 : w16.cell? ⟨gb164101, 0, none⟩ = some (.int .i64 a0_0) := (blk_cell BK164101.out 0).trans rfl; have hcz17_1 : w16.cell? ⟨gb164101, 1, none⟩ = some (.int .i64 a0_1) := (blk_cell BK164101.out 1).trans rfl; have hcz17_2 : w16.cell? ⟨gb164101, 2, none⟩ = some (.int .i64 a0_2) := (blk_cell BK164101.out 2).trans rfl; have hcz17_3 : w16.cell? ⟨gb164101, 3, none⟩ = some (.slice A0_3 l0_3.length c0_3) := (blk_cell BK164101.out 3).trans rfl; have hfz17_0 := blk_frozen BK164101.out 0; have hfz17_1 := blk_frozen BK164101.out 1; have hfz17_2 := blk_frozen BK164101.out 2; have hfz17_3 := blk_frozen BK164101.out 3) | ((with_reducible refine gate_callee (f := 155) rfl ?_); refine goesL_ (some 22) rfl rfl Try.func155 (by kernel_rfl) rfl #[.agg #[.int .i64 a0_0, .int .i64 a0_1, .int .i64 a0_2, .slice A0_3 l0_3.length c0_3], .int .i64 a1, .slice A2 l2.length c2] rfl (by (try simp only [List.map_toArray, List.map_cons, List.map_nil]); first | done | rfl | (simp only [List.length_drop, List.length_take]; rfl)) ?_; (with_reducible refine (impl_Board_path.calls k a0_0 a0_1 a0_2 _ _ l0_3 a1 _ _ l2 t164107 _ ?side1 ?side2 ?side3 ?side4 A8.out).mono ?_); (case side1 => repeat (first | exact (Kd.C_below HR0_3.out HB.out) | (with_reducible refine Kd.C_alloc ?_ _) | (with_reducible refine Kd.C_drewN ?_ _) | (with_reducible refine Kd.C_drew ?_))); (case side2 => exact HC0_3.out); (case side3 => repeat (first | exact (Kd.C_below HR2.out HB.out) | (with_reducible refine Kd.C_alloc ?_ _) | (with_reducible refine Kd.C_drewN ?_ _) | (with_reducible refine Kd.C_drew ?_))); (case side4 => exact HC2.out); rintro e w18 ⟨v164108, rfl, ho0, hb⟩; refine ⟨_, rfl, ?_⟩; have n0_ := Aside0.mk (Kd.R_elder' (by (with_reducible repeat (first | apply Kd.R_alloc | apply Kd.R_drewN | apply Kd.R_drew)); exact HO164104.out) (Kd.R_base ho0) hb); have n1_ := Aside0.mk (Kd.R_lower (Kd.R_new' ho0 (Kd.R_lt (by (with_reducible repeat (first | apply Kd.R_alloc | apply Kd.R_drewN | apply Kd.R_drew)); exact HO164104.out))) (below_size (by repeat (first | (with_reducible first | exact HB.out | apply below_alloc | apply pw_below_drewN | apply below_drew1 | refine below_set ?_ GE164101.out) | exact HB.out)))); have n2_ := Aside0.mk (blk_below (g := gb164101) (o := .cells #[.int .i64 a0_0, .int .i64 a0_1, .int .i64 a0_2, .slice A0_3 l0_3.length c0_3] 32 (0, 0)) (by (with_reducible repeat (first | refine blk_drewN ?_ _ | refine blk_drew ?_ | refine blk_alloc ?_ _)); exact BK164101.out) hb); have n3_ := Aside0.mk (below_step (by repeat (first | (with_reducible first | exact HB.out | apply below_alloc | apply pw_below_drewN | apply below_drew1 | refine below_set ?_ GE164101.out) | exact HB.out)) hb); clear HO164104; clear BK164101; clear HB; have HO164104 := n0_; have HO164109 := n1_; have BK164101 := n2_; have HB := n3_; clear n0_ n1_ n2_ n3_; (try clear hb); (try clear hb2); (try clear hk); (try clear hi); (try clear ho0)))
      go_ret2
      exact ⟨_, by first | rfl | (simp [errW_none, errW_some] <;> rfl) | (simp [*, errW_none, errW_some] <;> rfl), by (with_reducible repeat (first | apply Kd.R_alloc | apply Kd.R_drewN | apply Kd.R_drew)); exact Kd.R_mono HO164109.out (fun _ hk => trivial), by repeat (first | (with_reducible first | exact HB.out | apply below_alloc | apply pw_below_drewN | apply below_drew1 | refine below_set ?_ GE164101.out) | exact HB.out)⟩
    · replace c7 := Bool.eq_false_iff.mpr c7
      subst c7
      have H1 : (some (([] : List Int), false)) = some (r1, r2) := by rw [if_neg (show ¬ (false = true) by decide)] at H; exact H
      clear H
      have H := H1
      clear H1
      simp only [Option.some.injEq, Prod.mk.injEq] at H
      obtain ⟨rfl, rfl⟩ := H
      go_enter Try.func82, Try.ntmps82
      go_wp2_with (first | ((with_reducible refine gate_dst (N := 3) rfl ?_); refine box_event ?hg (N := 3) ?hd (cs := #[.int .i64 a0_0, .int .i64 a0_1, .int .i64 a0_2, .slice A0_3 l0_3.length c0_3]) (t := 32) ?hr ?_; (case hd => rfl); (case hg => rfl); (case hr => first | (go_simp; done) | (go_simp; rfl)); intro gb164101 hg w19 hbox hb; have n0_ := Aside0.mk (below_step (by repeat (first | (with_reducible first | exact HB.out | apply below_alloc | apply pw_below_drewN | apply below_drew1) | exact HB.out)) hb); have n1_ := Aside0.mk (hbox); have n2_ := Aside0.mk ((by rw [hg]; exact (below_size (by repeat (first | (with_reducible first | exact HB.out | apply below_alloc | apply pw_below_drewN | apply below_drew1) | exact HB.out))) : w.heap.size ≤ gb164101)); have n3_ := Aside0.mk ((by rw [hg]; exact (below_size (by repeat (first | (with_reducible first | exact HB.out | apply below_alloc | apply pw_below_drewN | apply below_drew1) | exact HB.out))) : w.heap.size ≤ gb164101)); clear HB; have HB := n0_; have BK164101 := n1_; have GW164101 := n2_; have GE164101 := n3_; clear n0_ n1_ n2_ n3_; clear hb hbox hg; have hcz20_0 : w19.cell? ⟨gb164101, 0, none⟩ = some (.int .i64 a0_0) := (blk_cell BK164101.out 0).trans rfl; have hcz20_1 : w19.cell? ⟨gb164101, 1, none⟩ = some (.int .i64 a0_1) := (blk_cell BK164101.out 1).trans rfl; have hcz20_2 : w19.cell? ⟨gb164101, 2, none⟩ = some (.int .i64 a0_2) := (blk_cell BK164101.out 2).trans rfl; have hcz20_3 : w19.cell? ⟨gb164101, 3, none⟩ = some (.slice A0_3 l0_3.length c0_3) := (blk_cell BK164101.out 3).trans rfl; have hfz20_0 := blk_frozen BK164101.out 0; have hfz20_1 := blk_frozen BK164101.out 1; have hfz20_2 := blk_frozen BK164101.out 2; have hfz20_3 := blk_frozen BK164101.out 3) | ((with_reducible refine gate_dst (N := 10) rfl ?_); refine Kd.R_lit (Kd.int .i64) _ 3 ?hg (N := 10) ?hd (xs := ([a1] : List Int)) (inner := [.int .i64 a1]) (ok := fun _ => True) (okp := fun _ => True) ?hr ?hp (fun _ hk => hk) trivial (Below.refl _ _) (Nat.le_refl _) (by simp) ?_; (case hd => rfl); (case hg => rfl); (case hr => first | (go_simp; done) | (go_simp; rfl)); (case hp => exact (Reps.one (show Kd.M (Kd.int .i64) _ _ _ a1 [.int .i64 a1] from rfl) (Reps.none _ _))); intro v164103 w21 ho22 hb hg_ hnew_; clear hg_ hnew_; (first | rw [← Ny164102.out] at ho22 | (simp only [Int.reduceToNat] at ho22; rw [← Ny164102.out] at ho22)); have n0_ := Aside0.mk (Kd.R_lower ho22 (below_size (by repeat (first | (with_reducible first | exact HB.out | apply below_alloc | apply pw_below_drewN | apply below_drew1 | refine below_set ?_ GE164101.out) | exact HB.out)))); have n1_ := Aside0.mk (blk_below (g := gb164101) (o := .cells #[.int .i64 a0_0, .int .i64 a0_1, .int .i64 a0_2, .slice A0_3 l0_3.length c0_3] 32 (0, 0)) (by (with_reducible repeat (first | refine blk_drewN ?_ _ | refine blk_drew ?_ | refine blk_alloc ?_ _)); exact BK164101.out) hb); have n2_ := Aside0.mk (below_step (by repeat (first | (with_reducible first | exact HB.out | apply below_alloc | apply pw_below_drewN | apply below_drew1 | refine below_set ?_ GE164101.out) | exact HB.out)) hb); clear BK164101; clear HB; have HO164104 := n0_; have BK164101 := n1_; have HB := n2_; clear n0_ n1_ n2_; clear hb ho22; obtain ⟨Ao23, co23, eo23⟩ := Kd.R_slice HO164104.out; subst eo23) | ((with_reducible refine gate_callee (f := 134) rfl ?_); refine goesL_ (some 11) rfl rfl Try.func134 (by kernel_rfl) rfl #[.agg #[.int .i64 a0_0, .int .i64 a0_1, .int .i64 a0_2, .slice A0_3 l0_3.length c0_3], .slice Ao23 y164102.length co23] rfl (by (try simp only [List.map_toArray, List.map_cons, List.map_nil]); first | done | rfl | (simp only [List.length_drop, List.length_take]; rfl)) ?_; (with_reducible refine (impl_areSquares.calls k a0_0 a0_1 a0_2 _ _ l0_3 _ _ y164102 true _ ?side1 ?side2 ?side3 ?side4 A4.out).mono ?_); (case side1 => repeat (first | exact (Kd.C_below HR0_3.out HB.out) | (with_reducible refine Kd.C_alloc ?_ _) | (with_reducible refine Kd.C_drewN ?_ _) | (with_reducible refine Kd.C_drew ?_))); (case side2 => exact HC0_3.out); (case side3 => repeat (first | exact (Kd.R_reads' HO164104.out).2.2 | (with_reducible refine Kd.C_alloc ?_ _) | (with_reducible refine Kd.C_drewN ?_ _) | (with_reducible refine Kd.C_drew ?_))); (case side4 => exact (Kd.R_reads' HO164104.out).2.1); rintro e w24 ⟨rfl, hb⟩; refine ⟨_, rfl, ?_⟩; have n0_ := Aside0.mk (Kd.R_below (by (with_reducible repeat (first | apply Kd.R_alloc | apply Kd.R_drewN | apply Kd.R_drew)); exact HO164104.out) hb); have n1_ := Aside0.mk (blk_below (g := gb164101) (o := .cells #[.int .i64 a0_0, .int .i64 a0_1, .int .i64 a0_2, .slice A0_3 l0_3.length c0_3] 32 (0, 0)) (by (with_reducible repeat (first | refine blk_drewN ?_ _ | refine blk_drew ?_ | refine blk_alloc ?_ _)); exact BK164101.out) hb); have n2_ := Aside0.mk (below_step (by repeat (first | (with_reducible first | exact HB.out | apply below_alloc | apply pw_below_drewN | apply below_drew1 | refine below_set ?_ GE164101.out) | exact HB.out)) hb); clear HO164104; clear BK164101; clear HB; have HO164104 := n0_; have BK164101 := n1_; have HB := n2_; clear n0_ n1_ n2_; (try clear hb); (try clear hb2); (try clear hk); (try clear hi); have hcz25_0 : w24.cell? ⟨gb164101, 0, none⟩ = some (.int .i64 a0_0) := (blk_cell BK164101.out 0).trans rfl; have hcz25_1 : w24.cell? ⟨gb164101, 1, none⟩ = some (.int .i64 a0_1) := (blk_cell BK164101.out 1).trans rfl; have hcz25_2 : w24.cell? ⟨gb164101, 2, none⟩ = some (.int .i64 a0_2) := (blk_cell BK164101.out 2).trans rfl; have hcz25_3 : w24.cell? ⟨gb164101, 3, none⟩ = some (.slice A0_3 l0_3.length c0_3) := (blk_cell BK164101.out 3).trans rfl; have hfz25_0 := blk_frozen BK164101.out 0; have hfz25_1 := blk_frozen BK164101.out 1; have hfz25_2 := blk_frozen BK164101.out 2; have hfz25_3 := blk_frozen BK164101.out 3) | (go_at_call 154; (with_reducible refine (impl_Board_areThrows.calls a0_0 a0_1 a0_2 _ _ l0_3 _ _ l2 false _ ?side1 ?side2 ?side3 ?side4 A6.out).mono ?_); (case side1 => repeat (first | exact (Kd.C_below HR0_3.out HB.out) | (with_reducible refine Kd.C_alloc ?_ _) | (with_reducible refine Kd.C_drewN ?_ _) | (with_reducible refine Kd.C_drew ?_))); (case side2 => exact HC0_3.out); (case side3 => repeat (first | exact (Kd.C_below HR2.out HB.out) | (with_reducible refine Kd.C_alloc ?_ _) | (with_reducible refine Kd.C_drewN ?_ _) | (with_reducible refine Kd.C_drew ?_))); (case side4 => exact HC2.out); rintro e w26 ⟨rfl, hb⟩; have n0_ := Aside0.mk (Kd.R_below (by (with_reducible repeat (first | apply Kd.R_alloc | apply Kd.R_drewN | apply Kd.R_drew)); exact HO164104.out) hb); have n1_ := Aside0.mk (blk_below (g := gb164101) (o := .cells #[.int .i64 a0_0, .int .i64 a0_1, .int .i64 a0_2, .slice A0_3 l0_3.length c0_3] 32 (0, 0)) (by (with_reducible repeat (first | refine blk_drewN ?_ _ | refine blk_drew ?_ | refine blk_alloc ?_ _)); exact BK164101.out) hb); have n2_ := Aside0.mk (below_step (by repeat (first | (with_reducible first | exact HB.out | apply below_alloc | apply pw_below_drewN | apply below_drew1 | refine below_set ?_ GE164101.out) | exact HB.out)) hb); clear HO164104; clear BK164101; clear HB; have HO164104 := n0_; have BK164101 := n1_; have HB := n2_; clear n0_ n1_ n2_; (try clear hb); (try clear hb2); (try clear hk); (try clear hi)))
      go_ret2
      exact ⟨_, by first | rfl | (simp [errW_none, errW_some] <;> rfl) | (simp [*, errW_none, errW_some] <;> rfl), by first | exact Kd.R_nil _ _ _ _ _ | exact Kd.N_nil _ _ _ _ _ | exact Kd.V_nil _ _ _ _ _ | exact Kd.Q_nil _ _ _ _ _ | exact Kd.S_nil _ _ _ _ _, by repeat (first | (with_reducible first | exact HB.out | apply below_alloc | apply pw_below_drewN | apply below_drew1 | refine below_set ?_ GE164101.out) | exact HB.out)⟩
  · replace c5 := Bool.eq_false_iff.mpr c5
    subst c5
    have H1 : (some (([] : List Int), false)) = some (r1, r2) := by rw [if_neg (show ¬ (false = true) by decide)] at H; exact H
    clear H
    have H := H1
    clear H1
    simp only [Option.some.injEq, Prod.mk.injEq] at H
    obtain ⟨rfl, rfl⟩ := H
    go_enter Try.func82, Try.ntmps82
    go_wp2_with (first | ((with_reducible refine gate_dst (N := 3) rfl ?_); refine box_event ?hg (N := 3) ?hd (cs := #[.int .i64 a0_0, .int .i64 a0_1, .int .i64 a0_2, .slice A0_3 l0_3.length c0_3]) (t := 32) ?hr ?_; (case hd => rfl); (case hg => rfl); (case hr => first | (go_simp; done) | (go_simp; rfl)); intro gb164101 hg w27 hbox hb; have n0_ := Aside0.mk (below_step (by repeat (first | (with_reducible first | exact HB.out | apply below_alloc | apply pw_below_drewN | apply below_drew1) | exact HB.out)) hb); have n1_ := Aside0.mk (hbox); have n2_ := Aside0.mk ((by rw [hg]; exact (below_size (by repeat (first | (with_reducible first | exact HB.out | apply below_alloc | apply pw_below_drewN | apply below_drew1) | exact HB.out))) : w.heap.size ≤ gb164101)); have n3_ := Aside0.mk ((by rw [hg]; exact (below_size (by repeat (first | (with_reducible first | exact HB.out | apply below_alloc | apply pw_below_drewN | apply below_drew1) | exact HB.out))) : w.heap.size ≤ gb164101)); clear HB; have HB := n0_; have BK164101 := n1_; have GW164101 := n2_; have GE164101 := n3_; clear n0_ n1_ n2_ n3_; clear hb hbox hg; have hcz28_0 : w27.cell? ⟨gb164101, 0, none⟩ = some (.int .i64 a0_0) := (blk_cell BK164101.out 0).trans rfl; have hcz28_1 : w27.cell? ⟨gb164101, 1, none⟩ = some (.int .i64 a0_1) := (blk_cell BK164101.out 1).trans rfl; have hcz28_2 : w27.cell? ⟨gb164101, 2, none⟩ = some (.int .i64 a0_2) := (blk_cell BK164101.out 2).trans rfl; have hcz28_3 : w27.cell? ⟨gb164101, 3, none⟩ = some (.slice A0_3 l0_3.length c0_3) := (blk_cell BK164101.out 3).trans rfl; have hfz28_0 := blk_frozen BK164101.out 0; have hfz28_1 := blk_frozen BK164101.out 1; have hfz28_2 := blk_frozen BK164101.out 2; have hfz28_3 := blk_frozen BK164101.out 3) | ((with_reducible refine gate_dst (N := 10) rfl ?_); refine Kd.R_lit (Kd.int .i64) _ 3 ?hg (N := 10) ?hd (xs := ([a1] : List Int)) (inner := [.int .i64 a1]) (ok := fun _ => True) (okp := fun _ => True) ?hr ?hp (fun _ hk => hk) trivial (Below.refl _ _) (Nat.le_refl _) (by simp) ?_; (case hd => rfl); (case hg => rfl); (case hr => first | (go_simp; done) | (go_simp; rfl)); (case hp => exact (Reps.one (show Kd.M (Kd.int .i64) _ _ _ a1 [.int .i64 a1] from rfl) (Reps.none _ _))); intro v164103 w29 ho30 hb hg_ hnew_; clear hg_ hnew_; (first | rw [← Ny164102.out] at ho30 | (simp only [Int.reduceToNat] at ho30; rw [← Ny164102.out] at ho30)); have n0_ := Aside0.mk (Kd.R_lower ho30 (below_size (by repeat (first | (with_reducible first | exact HB.out | apply below_alloc | apply pw_below_drewN | apply below_drew1 | refine below_set ?_ GE164101.out) | exact HB.out)))); have n1_ := Aside0.mk (blk_below (g := gb164101) (o := .cells #[.int .i64 a0_0, .int .i64 a0_1, .int .i64 a0_2, .slice A0_3 l0_3.length c0_3] 32 (0, 0)) (by (with_reducible repeat (first | refine blk_drewN ?_ _ | refine blk_drew ?_ | refine blk_alloc ?_ _)); exact BK164101.out) hb); have n2_ := Aside0.mk (below_step (by repeat (first | (with_reducible first | exact HB.out | apply below_alloc | apply pw_below_drewN | apply below_drew1 | refine below_set ?_ GE164101.out) | exact HB.out)) hb); clear BK164101; clear HB; have HO164104 := n0_; have BK164101 := n1_; have HB := n2_; clear n0_ n1_ n2_; clear hb ho30; obtain ⟨Ao31, co31, eo31⟩ := Kd.R_slice HO164104.out; subst eo31) | ((with_reducible refine gate_callee (f := 134) rfl ?_); refine goesL_ (some 11) rfl rfl Try.func134 (by kernel_rfl) rfl #[.agg #[.int .i64 a0_0, .int .i64 a0_1, .int .i64 a0_2, .slice A0_3 l0_3.length c0_3], .slice Ao31 y164102.length co31] rfl (by (try simp only [List.map_toArray, List.map_cons, List.map_nil]); first | done | rfl | (simp only [List.length_drop, List.length_take]; rfl)) ?_; (with_reducible refine (impl_areSquares.calls k a0_0 a0_1 a0_2 _ _ l0_3 _ _ y164102 false _ ?side1 ?side2 ?side3 ?side4 A4.out).mono ?_); (case side1 => repeat (first | exact (Kd.C_below HR0_3.out HB.out) | (with_reducible refine Kd.C_alloc ?_ _) | (with_reducible refine Kd.C_drewN ?_ _) | (with_reducible refine Kd.C_drew ?_))); (case side2 => exact HC0_3.out); (case side3 => repeat (first | exact (Kd.R_reads' HO164104.out).2.2 | (with_reducible refine Kd.C_alloc ?_ _) | (with_reducible refine Kd.C_drewN ?_ _) | (with_reducible refine Kd.C_drew ?_))); (case side4 => exact (Kd.R_reads' HO164104.out).2.1); rintro e w32 ⟨rfl, hb⟩; refine ⟨_, rfl, ?_⟩; have n0_ := Aside0.mk (Kd.R_below (by (with_reducible repeat (first | apply Kd.R_alloc | apply Kd.R_drewN | apply Kd.R_drew)); exact HO164104.out) hb); have n1_ := Aside0.mk (blk_below (g := gb164101) (o := .cells #[.int .i64 a0_0, .int .i64 a0_1, .int .i64 a0_2, .slice A0_3 l0_3.length c0_3] 32 (0, 0)) (by (with_reducible repeat (first | refine blk_drewN ?_ _ | refine blk_drew ?_ | refine blk_alloc ?_ _)); exact BK164101.out) hb); have n2_ := Aside0.mk (below_step (by repeat (first | (with_reducible first | exact HB.out | apply below_alloc | apply pw_below_drewN | apply below_drew1 | refine below_set ?_ GE164101.out) | exact HB.out)) hb); clear HO164104; clear BK164101; clear HB; have HO164104 := n0_; have BK164101 := n1_; have HB := n2_; clear n0_ n1_ n2_; (try clear hb); (try clear hb2); (try clear hk); (try clear hi)))
    go_ret2
    exact ⟨_, by first | rfl | (simp [errW_none, errW_some] <;> rfl) | (simp [*, errW_none, errW_some] <;> rfl), by first | exact Kd.R_nil _ _ _ _ _ | exact Kd.N_nil _ _ _ _ _ | exact Kd.V_nil _ _ _ _ _ | exact Kd.Q_nil _ _ _ _ _ | exact Kd.S_nil _ _ _ _ _, by repeat (first | (with_reducible first | exact HB.out | apply below_alloc | apply pw_below_drewN | apply below_drew1 | refine below_set ?_ GE164101.out) | exact HB.out)⟩

end

section
/-! ### impl_PlayThrows: function 72 -/
def impl_PlayThrows.f (k : Nat) (a0_0 : Int) (a0_1 : Int) (a0_2 : Int) (l0_3 : List (S27)) (a1 : Int) (l2 : List Int) : Option (Int × Bool) := (impl_PathOfThrows.f k a0_0 a0_1 a0_2 l0_3 a1 l2).bind fun bt144102 => (if bt144102.2 = true then (if 0 ≤ (wrap64 ((bt144102.1.length : Int) - 1)) then (if (wrap64 ((bt144102.1.length : Int) - 1)) < (bt144102.1.length : Int) then (some (rd bt144102.1 (wrap64 ((bt144102.1.length : Int) - 1)), true)) else (none)) else (none)) else (some (0, false)))
theorem impl_PlayThrows.mono : ∀ a0 a1 a2 a3 a4 a5 k, LeO (impl_PlayThrows.f k a0 a1 a2 a3 a4 a5) (impl_PlayThrows.f (k + 1) a0 a1 a2 a3 a4 a5) := by
  intro a0 a1 a2 a3 a4 a5 k
  unfold impl_PlayThrows.f
  repeat' first
      | (with_reducible exact impl_PathOfThrows.mono _ _ _ _ _ _ _)
      | (with_reducible exact LeO.refl _)
      | (with_reducible exact LeO.none _)
      | (with_reducible refine LeO.ite ?_ ?_)
      | (with_reducible refine LeO.bind ?_ (fun _ => ?_))
      | exact impl_PathOfThrows.mono _ _ _ _ _ _ _
      | exact LeO.none _
      | refine LeO.ite ?_ ?_
      | refine LeO.bind ?_ (fun _ => ?_)
set_option maxHeartbeats 8000000 in
set_option maxRecDepth 100000 in
theorem impl_PlayThrows.calls (k : Nat) (a0_0 : Int) (a0_1 : Int) (a0_2 : Int) (A0_3 : Option Addr) (c0_3 : Nat) (l0_3 : List (S27)) (a1 : Int) (A2 : Option Addr) (c2 : Nat) (l2 : List Int) (r1 : Int) (r2 : Bool) (w : World) (hr0_3 : Kd.C k27 w A0_3 l0_3.length l0_3) (hc0_3 : l0_3.length ≤ c0_3) (hr2 : Kd.C (Kd.int .i64) w A2 l2.length l2) (hc2 : l2.length ≤ c2) (h : impl_PlayThrows.f k a0_0 a0_1 a0_2 l0_3 a1 l2 = some (r1, r2)) :
    Calls Try.prog 72 #[.agg #[.int .i64 a0_0, .int .i64 a0_1, .int .i64 a0_2, .slice A0_3 l0_3.length c0_3], .int .i64 a1, .slice A2 l2.length c2] w fun e w' => e = .returned (.tuple #[.int .i64 r1, .bool r2]) ∧ Below w.heap.size w w' := by
  have hu32 := Try.underlying32
  have HR0_3 := Aside0.mk hr0_3
  have HC0_3 := Aside0.mk hc0_3
  clear hr0_3 hc0_3
  have HR2 := Aside0.mk hr2
  have HC2 := Aside0.mk hc2
  clear hr2 hc2
  have HB := Aside0.mk (Below.refl w.heap.size w)
  have H : ((impl_PathOfThrows.f k a0_0 a0_1 a0_2 l0_3 a1 l2).bind fun bt144102 => (if bt144102.2 = true then (if 0 ≤ (wrap64 ((bt144102.1.length : Int) - 1)) then (if (wrap64 ((bt144102.1.length : Int) - 1)) < (bt144102.1.length : Int) then (some (rd bt144102.1 (wrap64 ((bt144102.1.length : Int) - 1)), true)) else (none)) else (none)) else (some (0, false)))) = some (r1, r2) := h
  clear h
  replace H := Option.bind_eq_some_iff.mp H
  obtain ⟨⟨t144102, t144105⟩, A40, H⟩ := H
  replace H : (if t144105 = true then (if 0 ≤ (wrap64 ((t144102.length : Int) - 1)) then (if (wrap64 ((t144102.length : Int) - 1)) < (t144102.length : Int) then (some (rd t144102 (wrap64 ((t144102.length : Int) - 1)), true)) else (none)) else (none)) else (some (0, false))) = some (r1, r2) := H
  have A4 := Aside0.mk A40
  clear A40
  by_cases c5 : t144105 = true
  · subst c5
    have H1 : (if 0 ≤ (wrap64 ((t144102.length : Int) - 1)) then (if (wrap64 ((t144102.length : Int) - 1)) < (t144102.length : Int) then (some (rd t144102 (wrap64 ((t144102.length : Int) - 1)), true)) else (none)) else (none)) = some (r1, r2) := by rw [if_pos rfl] at H; exact H
    clear H
    have H := H1
    clear H1
    obtain ⟨ji6, hji6⟩ : ∃ j_ : Int, (wrap64 ((t144102.length : Int) - 1)) = j_ := ⟨_, rfl⟩
    replace H : (if 0 ≤ (ji6) then (if (ji6) < (t144102.length : Int) then (some (rd t144102 (ji6), true)) else (none)) else (none)) = some (r1, r2) := by first | (rw [hji6] at H; exact H) | (simp only [hji6] at H ⊢; exact H)
    (try rw [hji6] at A4)
    have hji6w : (IntKind.i64.wrap ((t144102.length : Int) - 1)) = ji6 := (i64_w _).trans hji6
    by_cases c7 : 0 ≤ (ji6)
    · rw [if_pos c7] at H
      have c7b0 : decide (0 ≤ (ji6)) = true := decide_eq_true c7
      clear c7
      by_cases c8 : (ji6) < (t144102.length : Int)
      · rw [if_pos c8] at H
        have c8b0 : decide ((ji6) < (t144102.length : Int)) = true := decide_eq_true c8
        clear c8
        simp only [Option.some.injEq, Prod.mk.injEq] at H
        obtain ⟨rfl, rfl⟩ := H
        go_enter Try.func72, Try.ntmps72
        go_wp2_with (first | ((with_reducible refine gate_dst (N := 3) rfl ?_); refine box_event ?hg (N := 3) ?hd (cs := #[.int .i64 a0_0, .int .i64 a0_1, .int .i64 a0_2, .slice A0_3 l0_3.length c0_3]) (t := 32) ?hr ?_; (case hd => rfl); (case hg => rfl); (case hr => first | (go_simp; done) | (go_simp; rfl)); intro gb144101 hg w9 hbox hb; have n0_ := Aside0.mk (below_step (by repeat (first | (with_reducible first | exact HB.out | apply below_alloc | apply pw_below_drewN | apply below_drew1) | exact HB.out)) hb); have n1_ := Aside0.mk (hbox); have n2_ := Aside0.mk ((by rw [hg]; exact (below_size (by repeat (first | (with_reducible first | exact HB.out | apply below_alloc | apply pw_below_drewN | apply below_drew1) | exact HB.out))) : w.heap.size ≤ gb144101)); have n3_ := Aside0.mk ((by rw [hg]; exact (below_size (by repeat (first | (with_reducible first | exact HB.out | apply below_alloc | apply pw_below_drewN | apply below_drew1) | exact HB.out))) : w.heap.size ≤ gb144101)); clear HB; have HB := n0_; have BK144101 := n1_; have GW144101 := n2_; have GE144101 := n3_; clear n0_ n1_ n2_ n3_; clear hb hbox hg; have hcz10_0 : w9.cell? ⟨gb144101, 0, none⟩ = some (.int .i64 a0_0) := (blk_cell BK144101.out 0).trans rfl; have hcz10_1 : w9.cell? ⟨gb144101, 1, none⟩ = some (.int .i64 a0_1) := (blk_cell BK144101.out 1).trans rfl; have hcz10_2 : w9.cell? ⟨gb144101, 2, none⟩ = some (.int .i64 a0_2) := (blk_cell BK144101.out 2).trans rfl; have hcz10_3 : w9.cell? ⟨gb144101, 3, none⟩ = some (.slice A0_3 l0_3.length c0_3) := (blk_cell BK144101.out 3).trans rfl; have hfz10_0 := blk_frozen BK144101.out 0; have hfz10_1 := blk_frozen BK144101.out 1; have hfz10_2 := blk_frozen BK144101.out 2; have hfz10_3 := blk_frozen BK144101.out 3) | ((with_reducible refine gate_callee (f := 82) rfl ?_); refine goesL_ (some 14) rfl rfl Try.func82 (by kernel_rfl) rfl #[.agg #[.int .i64 a0_0, .int .i64 a0_1, .int .i64 a0_2, .slice A0_3 l0_3.length c0_3], .int .i64 a1, .slice A2 l2.length c2] rfl (by (try simp only [List.map_toArray, List.map_cons, List.map_nil]); first | done | rfl | (simp only [List.length_drop, List.length_take]; rfl)) ?_; (with_reducible refine (impl_PathOfThrows.calls k a0_0 a0_1 a0_2 _ _ l0_3 a1 _ _ l2 t144102 true _ ?side1 ?side2 ?side3 ?side4 A4.out).mono ?_); (case side1 => repeat (first | exact (Kd.C_below HR0_3.out HB.out) | (with_reducible refine Kd.C_alloc ?_ _) | (with_reducible refine Kd.C_drewN ?_ _) | (with_reducible refine Kd.C_drew ?_))); (case side2 => exact HC0_3.out); (case side3 => repeat (first | exact (Kd.C_below HR2.out HB.out) | (with_reducible refine Kd.C_alloc ?_ _) | (with_reducible refine Kd.C_drewN ?_ _) | (with_reducible refine Kd.C_drew ?_))); (case side4 => exact HC2.out); rintro e w11 ⟨v144103, rfl, ho0, hb⟩; refine ⟨_, rfl, ?_⟩; have n0_ := Aside0.mk (Kd.R_lower ho0 (below_size (by repeat (first | (with_reducible first | exact HB.out | apply below_alloc | apply pw_below_drewN | apply below_drew1 | refine below_set ?_ GE144101.out) | exact HB.out)))); have n1_ := Aside0.mk (blk_below (g := gb144101) (o := .cells #[.int .i64 a0_0, .int .i64 a0_1, .int .i64 a0_2, .slice A0_3 l0_3.length c0_3] 32 (0, 0)) (by (with_reducible repeat (first | refine blk_drewN ?_ _ | refine blk_drew ?_ | refine blk_alloc ?_ _)); exact BK144101.out) hb); have n2_ := Aside0.mk (below_step (by repeat (first | (with_reducible first | exact HB.out | apply below_alloc | apply pw_below_drewN | apply below_drew1 | refine below_set ?_ GE144101.out) | exact HB.out)) hb); clear BK144101; clear HB; have HO144104 := n0_; have BK144101 := n1_; have HB := n2_; clear n0_ n1_ n2_; (try clear hb); (try clear hb2); (try clear hk); (try clear hi); (try clear ho0); obtain ⟨Ao12, co12, eo12⟩ := Kd.R_slice HO144104.out; subst eo12; have p144106 : 0 ≤ ((ji6) : Int) := of_decide_eq_true (by first | (with_reducible assumption) | assumption); have q144106 : (ji6) < (t144102.length : Int) := of_decide_eq_true (by first | (with_reducible assumption) | assumption); obtain ⟨ad144106, e144106, hx144106_0⟩ := Kd.at_int (Kd.R_reads' HO144104.out).2.2 (ji6) p144106 q144106; cases e144106; replace p144106 := eq_true p144106; replace q144106 := eq_true q144106))
        go_ret2
        exact ⟨by first | rfl | (simp [errW_none, errW_some] <;> rfl) | (simp only [← hji6]; first | rfl | (simp [errW_none, errW_some] <;> rfl)) | (simp [*, errW_none, errW_some] <;> rfl), by repeat (first | (with_reducible first | exact HB.out | apply below_alloc | apply pw_below_drewN | apply below_drew1 | refine below_set ?_ GE144101.out) | exact HB.out)⟩
      · rw [if_neg c8] at H
        exact absurd H (by simp)
    · rw [if_neg c7] at H
      exact absurd H (by simp)
  · replace c5 := Bool.eq_false_iff.mpr c5
    subst c5
    have H1 : (some (0, false)) = some (r1, r2) := by rw [if_neg (show ¬ (false = true) by decide)] at H; exact H
    clear H
    have H := H1
    clear H1
    simp only [Option.some.injEq, Prod.mk.injEq] at H
    obtain ⟨rfl, rfl⟩ := H
    go_enter Try.func72, Try.ntmps72
    go_wp2_with (first | ((with_reducible refine gate_dst (N := 3) rfl ?_); refine box_event ?hg (N := 3) ?hd (cs := #[.int .i64 a0_0, .int .i64 a0_1, .int .i64 a0_2, .slice A0_3 l0_3.length c0_3]) (t := 32) ?hr ?_; (case hd => rfl); (case hg => rfl); (case hr => first | (go_simp; done) | (go_simp; rfl)); intro gb144101 hg w13 hbox hb; have n0_ := Aside0.mk (below_step (by repeat (first | (with_reducible first | exact HB.out | apply below_alloc | apply pw_below_drewN | apply below_drew1) | exact HB.out)) hb); have n1_ := Aside0.mk (hbox); have n2_ := Aside0.mk ((by rw [hg]; exact (below_size (by repeat (first | (with_reducible first | exact HB.out | apply below_alloc | apply pw_below_drewN | apply below_drew1) | exact HB.out))) : w.heap.size ≤ gb144101)); have n3_ := Aside0.mk ((by rw [hg]; exact (below_size (by repeat (first | (with_reducible first | exact HB.out | apply below_alloc | apply pw_below_drewN | apply below_drew1) | exact HB.out))) : w.heap.size ≤ gb144101)); clear HB; have HB := n0_; have BK144101 := n1_; have GW144101 := n2_; have GE144101 := n3_; clear n0_ n1_ n2_ n3_; clear hb hbox hg; have hcz14_0 : w13.cell? ⟨gb144101, 0, none⟩ = some (.int .i64 a0_0) := (blk_cell BK144101.out 0).trans rfl; have hcz14_1 : w13.cell? ⟨gb144101, 1, none⟩ = some (.int .i64 a0_1) := (blk_cell BK144101.out 1).trans rfl; have hcz14_2 : w13.cell? ⟨gb144101, 2, none⟩ = some (.int .i64 a0_2) := (blk_cell BK144101.out 2).trans rfl; have hcz14_3 : w13.cell? ⟨gb144101, 3, none⟩ = some (.slice A0_3 l0_3.length c0_3) := (blk_cell BK144101.out 3).trans rfl; have hfz14_0 := blk_frozen BK144101.out 0; have hfz14_1 := blk_frozen BK144101.out 1; have hfz14_2 := blk_frozen BK144101.out 2; have hfz14_3 := blk_frozen BK144101.out 3) | ((with_reducible refine gate_callee (f := 82) rfl ?_); refine goesL_ (some 14) rfl rfl Try.func82 (by kernel_rfl) rfl #[.agg #[.int .i64 a0_0, .int .i64 a0_1, .int .i64 a0_2, .slice A0_3 l0_3.length c0_3], .int .i64 a1, .slice A2 l2.length c2] rfl (by (try simp only [List.map_toArray, List.map_cons, List.map_nil]); first | done | rfl | (simp only [List.length_drop, List.length_take]; rfl)) ?_; (with_reducible refine (impl_PathOfThrows.calls k a0_0 a0_1 a0_2 _ _ l0_3 a1 _ _ l2 t144102 false _ ?side1 ?side2 ?side3 ?side4 A4.out).mono ?_); (case side1 => repeat (first | exact (Kd.C_below HR0_3.out HB.out) | (with_reducible refine Kd.C_alloc ?_ _) | (with_reducible refine Kd.C_drewN ?_ _) | (with_reducible refine Kd.C_drew ?_))); (case side2 => exact HC0_3.out); (case side3 => repeat (first | exact (Kd.C_below HR2.out HB.out) | (with_reducible refine Kd.C_alloc ?_ _) | (with_reducible refine Kd.C_drewN ?_ _) | (with_reducible refine Kd.C_drew ?_))); (case side4 => exact HC2.out); rintro e w15 ⟨v144103, rfl, ho0, hb⟩; refine ⟨_, rfl, ?_⟩; have n0_ := Aside0.mk (Kd.R_lower ho0 (below_size (by repeat (first | (with_reducible first | exact HB.out | apply below_alloc | apply pw_below_drewN | apply below_drew1 | refine below_set ?_ GE144101.out) | exact HB.out)))); have n1_ := Aside0.mk (blk_below (g := gb144101) (o := .cells #[.int .i64 a0_0, .int .i64 a0_1, .int .i64 a0_2, .slice A0_3 l0_3.length c0_3] 32 (0, 0)) (by (with_reducible repeat (first | refine blk_drewN ?_ _ | refine blk_drew ?_ | refine blk_alloc ?_ _)); exact BK144101.out) hb); have n2_ := Aside0.mk (below_step (by repeat (first | (with_reducible first | exact HB.out | apply below_alloc | apply pw_below_drewN | apply below_drew1 | refine below_set ?_ GE144101.out) | exact HB.out)) hb); clear BK144101; clear HB; have HO144104 := n0_; have BK144101 := n1_; have HB := n2_; clear n0_ n1_ n2_; (try clear hb); (try clear hb2); (try clear hk); (try clear hi); (try clear ho0)))
    go_ret2
    exact ⟨by first | rfl | (simp [errW_none, errW_some] <;> rfl) | (simp [*, errW_none, errW_some] <;> rfl), by repeat (first | (with_reducible first | exact HB.out | apply below_alloc | apply pw_below_drewN | apply below_drew1 | refine below_set ?_ GE144101.out) | exact HB.out)⟩

end

section
/-! ### spec_PathOfThrows: function 81 -/
def spec_PathOfThrows.f (k : Nat) (a0_0 : Int) (a0_1 : Int) (a0_2 : Int) (l0_3 : List (S27)) (a1 : Int) (l2 : List Int) : Option (List Int × Bool) := (spec_sqThrows.f k a0_0 a0_1 a0_2 l0_3 a1 l2).bind fun t162102 => (if t162102 = true then ((spec_sqPlay.f k a0_0 a0_1 a0_2 l0_3 a1 l2).bind fun t162103 => (some (t162103, true))) else (some (([] : List Int), false)))
theorem spec_PathOfThrows.mono : ∀ a0 a1 a2 a3 a4 a5 k, LeO (spec_PathOfThrows.f k a0 a1 a2 a3 a4 a5) (spec_PathOfThrows.f (k + 1) a0 a1 a2 a3 a4 a5) := by
  intro a0 a1 a2 a3 a4 a5 k
  unfold spec_PathOfThrows.f
  repeat' first
      | (with_reducible exact spec_sqPlay.mono _ _ _ _ _ _ _)
      | (with_reducible exact spec_sqThrows.mono _ _ _ _ _ _ _)
      | (with_reducible exact LeO.refl _)
      | (with_reducible exact LeO.none _)
      | (with_reducible refine LeO.ite ?_ ?_)
      | (with_reducible refine LeO.bind ?_ (fun _ => ?_))
      | exact spec_sqPlay.mono _ _ _ _ _ _ _
      | exact spec_sqThrows.mono _ _ _ _ _ _ _
      | exact LeO.none _
      | refine LeO.ite ?_ ?_
      | refine LeO.bind ?_ (fun _ => ?_)
set_option maxHeartbeats 8000000 in
set_option maxRecDepth 100000 in
theorem spec_PathOfThrows.calls (k : Nat) (a0_0 : Int) (a0_1 : Int) (a0_2 : Int) (A0_3 : Option Addr) (c0_3 : Nat) (l0_3 : List (S27)) (a1 : Int) (A2 : Option Addr) (c2 : Nat) (l2 : List Int) (r1 : List Int) (r2 : Bool) (w : World) (hr0_3 : Kd.C k27 w A0_3 l0_3.length l0_3) (hc0_3 : l0_3.length ≤ c0_3) (hr2 : Kd.C (Kd.int .i64) w A2 l2.length l2) (hc2 : l2.length ≤ c2) (h : spec_PathOfThrows.f k a0_0 a0_1 a0_2 l0_3 a1 l2 = some (r1, r2)) :
    Calls Try.prog 81 #[.agg #[.int .i64 a0_0, .int .i64 a0_1, .int .i64 a0_2, .slice A0_3 l0_3.length c0_3], .int .i64 a1, .slice A2 l2.length c2] w fun e w' => ∃ v0_ : Value, e = .returned (.tuple #[v0_, .bool r2]) ∧ Kd.R (Kd.int .i64) 3 w' w.heap.size (fun _ => True) v0_ r1 ∧ Below w.heap.size w w' := by
  have hu32 := Try.underlying32
  have HR0_3 := Aside0.mk hr0_3
  have HC0_3 := Aside0.mk hc0_3
  clear hr0_3 hc0_3
  have HR2 := Aside0.mk hr2
  have HC2 := Aside0.mk hc2
  clear hr2 hc2
  have HB := Aside0.mk (Below.refl w.heap.size w)
  have H : ((spec_sqThrows.f k a0_0 a0_1 a0_2 l0_3 a1 l2).bind fun t162102 => (if t162102 = true then ((spec_sqPlay.f k a0_0 a0_1 a0_2 l0_3 a1 l2).bind fun t162103 => (some (t162103, true))) else (some (([] : List Int), false)))) = some (r1, r2) := h
  clear h
  replace H := Option.bind_eq_some_iff.mp H
  obtain ⟨t162102, A40, H⟩ := H
  replace H : (if t162102 = true then ((spec_sqPlay.f k a0_0 a0_1 a0_2 l0_3 a1 l2).bind fun t162103 => (some (t162103, true))) else (some (([] : List Int), false))) = some (r1, r2) := H
  have A4 := Aside0.mk A40
  clear A40
  by_cases c5 : t162102 = true
  · subst c5
    have H1 : ((spec_sqPlay.f k a0_0 a0_1 a0_2 l0_3 a1 l2).bind fun t162103 => (some (t162103, true))) = some (r1, r2) := by rw [if_pos rfl] at H; exact H
    clear H
    have H := H1
    clear H1
    replace H := Option.bind_eq_some_iff.mp H
    obtain ⟨t162103, A60, H⟩ := H
    replace H : (some (t162103, true)) = some (r1, r2) := H
    have A6 := Aside0.mk A60
    clear A60
    simp only [Option.some.injEq, Prod.mk.injEq] at H
    obtain ⟨rfl, rfl⟩ := H
    go_enter Try.func81, Try.ntmps81
    go_wp2_with (first | ((with_reducible refine gate_dst (N := 3) rfl ?_); refine box_event ?hg (N := 3) ?hd (cs := #[.int .i64 a0_0, .int .i64 a0_1, .int .i64 a0_2, .slice A0_3 l0_3.length c0_3]) (t := 32) ?hr ?_; (case hd => rfl); (case hg => rfl); (case hr => first | (go_simp; done) | (go_simp; rfl)); intro gb162101 hg w7 hbox hb; have n0_ := Aside0.mk (below_step (by repeat (first | (with_reducible first | exact HB.out | apply below_alloc | apply pw_below_drewN | apply below_drew1) | exact HB.out)) hb); have n1_ := Aside0.mk (hbox); have n2_ := Aside0.mk ((by rw [hg]; exact (below_size (by repeat (first | (with_reducible first | exact HB.out | apply below_alloc | apply pw_below_drewN | apply below_drew1) | exact HB.out))) : w.heap.size ≤ gb162101)); have n3_ := Aside0.mk ((by rw [hg]; exact (below_size (by repeat (first | (with_reducible first | exact HB.out | apply below_alloc | apply pw_below_drewN | apply below_drew1) | exact HB.out))) : w.heap.size ≤ gb162101)); clear HB; have HB := n0_; have BK162101 := n1_; have GW162101 := n2_; have GE162101 := n3_; clear n0_ n1_ n2_ n3_; clear hb hbox hg; have hcz8_0 : w7.cell? ⟨gb162101, 0, none⟩ = some (.int .i64 a0_0) := (blk_cell BK162101.out 0).trans rfl; have hcz8_1 : w7.cell? ⟨gb162101, 1, none⟩ = some (.int .i64 a0_1) := (blk_cell BK162101.out 1).trans rfl; have hcz8_2 : w7.cell? ⟨gb162101, 2, none⟩ = some (.int .i64 a0_2) := (blk_cell BK162101.out 2).trans rfl; have hcz8_3 : w7.cell? ⟨gb162101, 3, none⟩ = some (.slice A0_3 l0_3.length c0_3) := (blk_cell BK162101.out 3).trans rfl; have hfz8_0 := blk_frozen BK162101.out 0; have hfz8_1 := blk_frozen BK162101.out 1; have hfz8_2 := blk_frozen BK162101.out 2; have hfz8_3 := blk_frozen BK162101.out 3) | ((with_reducible refine gate_callee (f := 146) rfl ?_); refine goesL_ (some 11) rfl rfl Try.func146 (by kernel_rfl) rfl #[.agg #[.int .i64 a0_0, .int .i64 a0_1, .int .i64 a0_2, .slice A0_3 l0_3.length c0_3], .int .i64 a1, .slice A2 l2.length c2] rfl (by (try simp only [List.map_toArray, List.map_cons, List.map_nil]); first | done | rfl | (simp only [List.length_drop, List.length_take]; rfl)) ?_; (with_reducible refine (spec_sqThrows.calls k a0_0 a0_1 a0_2 _ _ l0_3 a1 _ _ l2 true _ ?side1 ?side2 ?side3 ?side4 A4.out).mono ?_); (case side1 => repeat (first | exact (Kd.C_below HR0_3.out HB.out) | (with_reducible refine Kd.C_alloc ?_ _) | (with_reducible refine Kd.C_drewN ?_ _) | (with_reducible refine Kd.C_drew ?_))); (case side2 => exact HC0_3.out); (case side3 => repeat (first | exact (Kd.C_below HR2.out HB.out) | (with_reducible refine Kd.C_alloc ?_ _) | (with_reducible refine Kd.C_drewN ?_ _) | (with_reducible refine Kd.C_drew ?_))); (case side4 => exact HC2.out); rintro e w9 ⟨rfl, hb⟩; refine ⟨_, rfl, ?_⟩; have n0_ := Aside0.mk (blk_below (g := gb162101) (o := .cells #[.int .i64 a0_0, .int .i64 a0_1, .int .i64 a0_2, .slice A0_3 l0_3.length c0_3] 32 (0, 0)) (by (with_reducible repeat (first | refine blk_drewN ?_ _ | refine blk_drew ?_ | refine blk_alloc ?_ _)); exact BK162101.out) hb); have n1_ := Aside0.mk (below_step (by repeat (first | (with_reducible first | exact HB.out | apply below_alloc | apply pw_below_drewN | apply below_drew1 | refine below_set ?_ GE162101.out) | exact HB.out)) hb); clear BK162101; clear HB; have BK162101 := n0_; have HB := n1_; clear n0_ n1_; (try clear hb); (try clear hb2); (try clear hk); (try clear hi); have hcz10_0 : w9.cell? ⟨gb162101, 0, none⟩ = some (.int .i64 a0_0) := (blk_cell BK162101.out 0).trans rfl; have hcz10_1 : w9.cell? ⟨gb162101, 1, none⟩ = some (.int .i64 a0_1) := (blk_cell BK162101.out 1).trans rfl; have hcz10_2 : w9.cell? ⟨gb162101, 2, none⟩ = some (.int .i64 a0_2) := (blk_cell BK162101.out 2).trans rfl; have hcz10_3 : w9.cell? ⟨gb162101, 3, none⟩ = some (.slice A0_3 l0_3.length c0_3) := (blk_cell BK162101.out 3).trans rfl; have hfz10_0 := blk_frozen BK162101.out 0; have hfz10_1 := blk_frozen BK162101.out 1; have hfz10_2 := blk_frozen BK162101.out 2; have hfz10_3 := blk_frozen BK162101.out 3) | ((with_reducible refine gate_callee (f := 147) rfl ?_); refine goesL_ (some 16) rfl rfl Try.func147 (by kernel_rfl) rfl #[.agg #[.int .i64 a0_0, .int .i64 a0_1, .int .i64 a0_2, .slice A0_3 l0_3.length c0_3], .int .i64 a1, .slice A2 l2.length c2] rfl (by (try simp only [List.map_toArray, List.map_cons, List.map_nil]); first | done | rfl | (simp only [List.length_drop, List.length_take]; rfl)) ?_; (with_reducible refine (spec_sqPlay.calls k a0_0 a0_1 a0_2 _ _ l0_3 a1 _ _ l2 t162103 _ ?side1 ?side2 ?side3 ?side4 A6.out).mono ?_); (case side1 => repeat (first | exact (Kd.C_below HR0_3.out HB.out) | (with_reducible refine Kd.C_alloc ?_ _) | (with_reducible refine Kd.C_drewN ?_ _) | (with_reducible refine Kd.C_drew ?_))); (case side2 => exact HC0_3.out); (case side3 => repeat (first | exact (Kd.C_below HR2.out HB.out) | (with_reducible refine Kd.C_alloc ?_ _) | (with_reducible refine Kd.C_drewN ?_ _) | (with_reducible refine Kd.C_drew ?_))); (case side4 => exact HC2.out); rintro e w11 ⟨v162104, rfl, ho0, hb⟩; refine ⟨_, rfl, ?_⟩; have n0_ := Aside0.mk (Kd.R_lower ho0 (below_size (by repeat (first | (with_reducible first | exact HB.out | apply below_alloc | apply pw_below_drewN | apply below_drew1 | refine below_set ?_ GE162101.out) | exact HB.out)))); have n1_ := Aside0.mk (blk_below (g := gb162101) (o := .cells #[.int .i64 a0_0, .int .i64 a0_1, .int .i64 a0_2, .slice A0_3 l0_3.length c0_3] 32 (0, 0)) (by (with_reducible repeat (first | refine blk_drewN ?_ _ | refine blk_drew ?_ | refine blk_alloc ?_ _)); exact BK162101.out) hb); have n2_ := Aside0.mk (below_step (by repeat (first | (with_reducible first | exact HB.out | apply below_alloc | apply pw_below_drewN | apply below_drew1 | refine below_set ?_ GE162101.out) | exact HB.out)) hb); clear BK162101; clear HB; have HO162105 := n0_; have BK162101 := n1_; have HB := n2_; clear n0_ n1_ n2_; (try clear hb); (try clear hb2); (try clear hk); (try clear hi); (try clear ho0)))
    go_ret2
    exact ⟨_, by first | rfl | (simp [errW_none, errW_some] <;> rfl) | (simp [*, errW_none, errW_some] <;> rfl), by (with_reducible repeat (first | apply Kd.R_alloc | apply Kd.R_drewN | apply Kd.R_drew)); exact HO162105.out, by repeat (first | (with_reducible first | exact HB.out | apply below_alloc | apply pw_below_drewN | apply below_drew1 | refine below_set ?_ GE162101.out) | exact HB.out)⟩
  · replace c5 := Bool.eq_false_iff.mpr c5
    subst c5
    have H1 : (some (([] : List Int), false)) = some (r1, r2) := by rw [if_neg (show ¬ (false = true) by decide)] at H; exact H
    clear H
    have H := H1
    clear H1
    simp only [Option.some.injEq, Prod.mk.injEq] at H
    obtain ⟨rfl, rfl⟩ := H
    go_enter Try.func81, Try.ntmps81
    go_wp2_with (first | ((with_reducible refine gate_dst (N := 3) rfl ?_); refine box_event ?hg (N := 3) ?hd (cs := #[.int .i64 a0_0, .int .i64 a0_1, .int .i64 a0_2, .slice A0_3 l0_3.length c0_3]) (t := 32) ?hr ?_; (case hd => rfl); (case hg => rfl); (case hr => first | (go_simp; done) | (go_simp; rfl)); intro gb162101 hg w12 hbox hb; have n0_ := Aside0.mk (below_step (by repeat (first | (with_reducible first | exact HB.out | apply below_alloc | apply pw_below_drewN | apply below_drew1) | exact HB.out)) hb); have n1_ := Aside0.mk (hbox); have n2_ := Aside0.mk ((by rw [hg]; exact (below_size (by repeat (first | (with_reducible first | exact HB.out | apply below_alloc | apply pw_below_drewN | apply below_drew1) | exact HB.out))) : w.heap.size ≤ gb162101)); have n3_ := Aside0.mk ((by rw [hg]; exact (below_size (by repeat (first | (with_reducible first | exact HB.out | apply below_alloc | apply pw_below_drewN | apply below_drew1) | exact HB.out))) : w.heap.size ≤ gb162101)); clear HB; have HB := n0_; have BK162101 := n1_; have GW162101 := n2_; have GE162101 := n3_; clear n0_ n1_ n2_ n3_; clear hb hbox hg; have hcz13_0 : w12.cell? ⟨gb162101, 0, none⟩ = some (.int .i64 a0_0) := (blk_cell BK162101.out 0).trans rfl; have hcz13_1 : w12.cell? ⟨gb162101, 1, none⟩ = some (.int .i64 a0_1) := (blk_cell BK162101.out 1).trans rfl; have hcz13_2 : w12.cell? ⟨gb162101, 2, none⟩ = some (.int .i64 a0_2) := (blk_cell BK162101.out 2).trans rfl; have hcz13_3 : w12.cell? ⟨gb162101, 3, none⟩ = some (.slice A0_3 l0_3.length c0_3) := (blk_cell BK162101.out 3).trans rfl; have hfz13_0 := blk_frozen BK162101.out 0; have hfz13_1 := blk_frozen BK162101.out 1; have hfz13_2 := blk_frozen BK162101.out 2; have hfz13_3 := blk_frozen BK162101.out 3) | ((with_reducible refine gate_callee (f := 146) rfl ?_); refine goesL_ (some 11) rfl rfl Try.func146 (by kernel_rfl) rfl #[.agg #[.int .i64 a0_0, .int .i64 a0_1, .int .i64 a0_2, .slice A0_3 l0_3.length c0_3], .int .i64 a1, .slice A2 l2.length c2] rfl (by (try simp only [List.map_toArray, List.map_cons, List.map_nil]); first | done | rfl | (simp only [List.length_drop, List.length_take]; rfl)) ?_; (with_reducible refine (spec_sqThrows.calls k a0_0 a0_1 a0_2 _ _ l0_3 a1 _ _ l2 false _ ?side1 ?side2 ?side3 ?side4 A4.out).mono ?_); (case side1 => repeat (first | exact (Kd.C_below HR0_3.out HB.out) | (with_reducible refine Kd.C_alloc ?_ _) | (with_reducible refine Kd.C_drewN ?_ _) | (with_reducible refine Kd.C_drew ?_))); (case side2 => exact HC0_3.out); (case side3 => repeat (first | exact (Kd.C_below HR2.out HB.out) | (with_reducible refine Kd.C_alloc ?_ _) | (with_reducible refine Kd.C_drewN ?_ _) | (with_reducible refine Kd.C_drew ?_))); (case side4 => exact HC2.out); rintro e w14 ⟨rfl, hb⟩; refine ⟨_, rfl, ?_⟩; have n0_ := Aside0.mk (blk_below (g := gb162101) (o := .cells #[.int .i64 a0_0, .int .i64 a0_1, .int .i64 a0_2, .slice A0_3 l0_3.length c0_3] 32 (0, 0)) (by (with_reducible repeat (first | refine blk_drewN ?_ _ | refine blk_drew ?_ | refine blk_alloc ?_ _)); exact BK162101.out) hb); have n1_ := Aside0.mk (below_step (by repeat (first | (with_reducible first | exact HB.out | apply below_alloc | apply pw_below_drewN | apply below_drew1 | refine below_set ?_ GE162101.out) | exact HB.out)) hb); clear BK162101; clear HB; have BK162101 := n0_; have HB := n1_; clear n0_ n1_; (try clear hb); (try clear hb2); (try clear hk); (try clear hi)))
    go_ret2
    exact ⟨_, by first | rfl | (simp [errW_none, errW_some] <;> rfl) | (simp [*, errW_none, errW_some] <;> rfl), by first | exact Kd.R_nil _ _ _ _ _ | exact Kd.N_nil _ _ _ _ _ | exact Kd.V_nil _ _ _ _ _ | exact Kd.Q_nil _ _ _ _ _ | exact Kd.S_nil _ _ _ _ _, by repeat (first | (with_reducible first | exact HB.out | apply below_alloc | apply pw_below_drewN | apply below_drew1 | refine below_set ?_ GE162101.out) | exact HB.out)⟩

end

end Go.Proofs.Ytkobjjadojpjfaa.Pr
