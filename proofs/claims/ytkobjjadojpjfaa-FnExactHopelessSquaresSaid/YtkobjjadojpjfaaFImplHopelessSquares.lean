-- A text of the machine side, written by wip/gen.py of this repo out of the translation. Not trusted: Lean checks it.
import Derived.Test.YtkobjjadojpjfaaF0
import Derived.Test.YtkobjjadojpjfaaFGB
import Derived.Test.YtkobjjadojpjfaaFImplBoardFar
import Derived.Test.YtkobjjadojpjfaaFImplIsBoard
namespace Go.Proofs.Ytkobjjadojpjfaa.Pr
open Go.RowKit Go.Proofs.YtkobjjadojpjfaaW.PrintWords Go.Proofs.YtkobjjadojpjfaaW.PrintLast Go.Proofs.YtkobjjadojpjfaaW.PrintMore
attribute [local go_sem] max2_int min2_int max_two min_two max_three min_three max_four min_four   -- for this text's walks alone
set_option linter.unusedVariables false
set_option linter.unusedSimpArgs false

/-! ### impl_HopelessSquares: function 96 -/
def impl_HopelessSquares.l0 : Nat → List Int → List Int → Int → Int → Int → Int → Int → List (S27) → Option (List Int × Bool)
 | 0, _, _, _, _, _, _, _, _ => none
 | k + 1, x4, x12, x13, x14, x192102000, x192102001, x192102002, x192102003 => if x14 < x13 then (if 0 ≤ x14 then (if x14 < (x12.length : Int) then (if (rd x12 x14) < 0 then ((impl_Board_isSquare.f k x192102000 x192102001 x192102002 x192102003 x14).bind fun t192110 => (if t192110 = true then (if x4.length < 17592186044416 then (impl_HopelessSquares.l0 k (x4 ++ [x14]) x12 x13 (wrap64 (x14 + 1)) x192102000 x192102001 x192102002 x192102003) else (none)) else (impl_HopelessSquares.l0 k x4 x12 x13 (wrap64 (x14 + 1)) x192102000 x192102001 x192102002 x192102003))) else (impl_HopelessSquares.l0 k x4 x12 x13 (wrap64 (x14 + 1)) x192102000 x192102001 x192102002 x192102003)) else (none)) else (none)) else (some (x4, true))
def impl_HopelessSquares.f (k : Nat) (a0_0 : Int) (a0_1 : Int) (a0_2 : Int) (l0_3 : List (S27)) : Option (List Int × Bool) := (impl_IsBoard.f k a0_0 a0_1 a0_2 l0_3).bind fun t192102 => (if t192102 = true then ((impl_Board_far.f k a0_0 a0_1 a0_2 l0_3).bind fun t192106 => (impl_HopelessSquares.l0 k (([] : List Int)) t192106 (t192106.length : Int) 0 a0_0 a0_1 a0_2 l0_3)) else (some (([] : List Int), false)))
set_option maxHeartbeats 8000000 in
set_option maxRecDepth 100000 in
theorem impl_HopelessSquares.calls (k : Nat) (a0_0 : Int) (a0_1 : Int) (a0_2 : Int) (A0_3 : Option Addr) (c0_3 : Nat) (l0_3 : List (S27)) (r1 : List Int) (r2 : Bool) (w : World) (hr0_3 : Kd.C k27 w A0_3 l0_3.length l0_3) (hc0_3 : l0_3.length ≤ c0_3) (h : impl_HopelessSquares.f k a0_0 a0_1 a0_2 l0_3 = some (r1, r2)) :
  Calls Try.prog 96 #[.agg #[.int .i64 a0_0, .int .i64 a0_1, .int .i64 a0_2, .slice A0_3 l0_3.length c0_3]] w fun e w' => ∃ v0_ : Value, e = .returned (.tuple #[v0_, .bool r2]) ∧ Kd.R (Kd.int .i64) 3 w' w.heap.size (fun _ => True) v0_ r1 ∧ Below w.heap.size w w' := by
 have hu32 := Try.underlying32
 have HR0_3 := Aside0.mk hr0_3
 have HC0_3 := Aside0.mk hc0_3
 clear hr0_3 hc0_3
 have HB := Aside0.mk (Below.refl w.heap.size w)
 have H : ((impl_IsBoard.f k a0_0 a0_1 a0_2 l0_3).bind fun t192102 => (if t192102 = true then ((impl_Board_far.f k a0_0 a0_1 a0_2 l0_3).bind fun t192106 => (impl_HopelessSquares.l0 k (([] : List Int)) t192106 (t192106.length : Int) 0 a0_0 a0_1 a0_2 l0_3)) else (some (([] : List Int), false)))) = some (r1, r2) := h
 clear h
 replace H := Option.bind_eq_some_iff.mp H
 obtain ⟨t192102, A20, H⟩ := H
 replace H : (if t192102 = true then ((impl_Board_far.f k a0_0 a0_1 a0_2 l0_3).bind fun t192106 => (impl_HopelessSquares.l0 k (([] : List Int)) t192106 (t192106.length : Int) 0 a0_0 a0_1 a0_2 l0_3)) else (some (([] : List Int), false))) = some (r1, r2) := H
 have A2 := Aside0.mk A20
 clear A20
 by_cases c3 : t192102 = true
 ·subst c3
  have H1 : ((impl_Board_far.f k a0_0 a0_1 a0_2 l0_3).bind fun t192106 => (impl_HopelessSquares.l0 k (([] : List Int)) t192106 (t192106.length : Int) 0 a0_0 a0_1 a0_2 l0_3)) = some (r1, r2) := by rw [if_pos rfl] at H; exact H
  clear H
  have H := H1
  clear H1
  obtain ⟨y192103, hy192103⟩ : ∃ y_ : List Int, y_ = (([] : List Int)) := ⟨_, rfl⟩
  replace H : ((impl_Board_far.f k a0_0 a0_1 a0_2 l0_3).bind fun t192106 => (impl_HopelessSquares.l0 k y192103 t192106 (t192106.length : Int) 0 a0_0 a0_1 a0_2 l0_3)) = some (r1, r2) := by first | (rw [hy192103]; with_reducible exact H) | (have H2_ := (Option.bind_some _ _).symm.trans H; rw [hy192103]; with_reducible exact H2_) | (have H2_ := (Option.bind_some _ _).symm.trans H; with_reducible exact H2_) | with_reducible exact H | (rw [hy192103]; exact H) | exact H
  have Ny192103 := Aside0.mk hy192103
  clear hy192103
  replace H := Option.bind_eq_some_iff.mp H
  obtain ⟨t192106, A40, H⟩ := H
  replace H : (impl_HopelessSquares.l0 k y192103 t192106 (t192106.length : Int) 0 a0_0 a0_1 a0_2 l0_3) = some (r1, r2) := H
  have A4 := Aside0.mk A40
  clear A40
  have H' := Aside0.mk H
  clear H
  go_enter Try.func96, Try.ntmps96
  go_wp2_with (first | ((with_reducible refine gate_dst (N := 1) rfl ?_); refine box_event ?hg (N := 1) ?hd (cs := #[.int .i64 a0_0, .int .i64 a0_1, .int .i64 a0_2, .slice A0_3 l0_3.length c0_3]) (t := 32) ?hr ?_; (case hd => rfl); (case hg => rfl); (case hr => first | (go_simp; done) | (go_simp; rfl)); intro gb192101 hg w5 hbox hb; have n0_ := Aside0.mk (below_step (by repeat (first | (with_reducible first | exact HB.out | apply below_alloc | apply pw_below_drewN | apply below_drew1) | exact HB.out)) hb); have n1_ := Aside0.mk (hbox); have n2_ := Aside0.mk ((by rw [hg]; exact (below_size (by repeat (first | (with_reducible first | exact HB.out | apply below_alloc | apply pw_below_drewN | apply below_drew1) | exact HB.out))) : w.heap.size ≤ gb192101)); have n3_ := Aside0.mk ((by rw [hg]; exact (below_size (by repeat (first | (with_reducible first | exact HB.out | apply below_alloc | apply pw_below_drewN | apply below_drew1) | exact HB.out))) : w.heap.size ≤ gb192101)); clear HB; have HB := n0_; have BK192101 := n1_; have GW192101 := n2_; have GE192101 := n3_; clear n0_ n1_ n2_ n3_; clear hb hbox hg; have hcz6_0 : w5.cell? ⟨gb192101, 0, none⟩ = some (.int .i64 a0_0) := (blk_cell BK192101.out 0).trans rfl; have hcz6_1 : w5.cell? ⟨gb192101, 1, none⟩ = some (.int .i64 a0_1) := (blk_cell BK192101.out 1).trans rfl; have hcz6_2 : w5.cell? ⟨gb192101, 2, none⟩ = some (.int .i64 a0_2) := (blk_cell BK192101.out 2).trans rfl; have hcz6_3 : w5.cell? ⟨gb192101, 3, none⟩ = some (.slice A0_3 l0_3.length c0_3) := (blk_cell BK192101.out 3).trans rfl; have hfz6_0 := blk_frozen BK192101.out 0; have hfz6_1 := blk_frozen BK192101.out 1; have hfz6_2 := blk_frozen BK192101.out 2; have hfz6_3 := blk_frozen BK192101.out 3) | ((with_reducible refine gate_callee (f := 44) rfl ?_); refine goesL_ (some 8) rfl rfl Try.func44 (by kernel_rfl) rfl #[.agg #[.int .i64 a0_0, .int .i64 a0_1, .int .i64 a0_2, .slice A0_3 l0_3.length c0_3]] rfl (by (try simp only [List.map_toArray, List.map_cons, List.map_nil]); first | done | rfl | (simp only [List.length_drop, List.length_take]; rfl)) ?_; (with_reducible refine (impl_IsBoard.calls k a0_0 a0_1 a0_2 _ _ l0_3 true _ ?side1 ?side2 A2.out).mono ?_); (case side1 => repeat (first | exact (Kd.C_below HR0_3.out HB.out) | (with_reducible refine Kd.C_alloc ?_ _) | (with_reducible refine Kd.C_drewN ?_ _) | (with_reducible refine Kd.C_drew ?_))); (case side2 => exact HC0_3.out); rintro e w7 ⟨rfl, hb⟩; refine ⟨_, rfl, ?_⟩; have n0_ := Aside0.mk (blk_below (g := gb192101) (o := .cells #[.int .i64 a0_0, .int .i64 a0_1, .int .i64 a0_2, .slice A0_3 l0_3.length c0_3] 32 (0, 0)) (by (with_reducible repeat (first | refine blk_drewN ?_ _ | refine blk_drew ?_ | refine blk_alloc ?_ _)); exact BK192101.out) hb); have n1_ := Aside0.mk (below_step (by repeat (first | (with_reducible first | exact HB.out | apply below_alloc | apply pw_below_drewN | apply below_drew1 | refine below_set ?_ GE192101.out) | exact HB.out)) hb); clear BK192101; clear HB; have BK192101 := n0_; have HB := n1_; clear n0_ n1_; (try clear hb); (try clear hb2); (try clear hk); (try clear hi)) | ((with_reducible refine gate_dst (N := 10) rfl ?_); refine Kd.R_lit (Kd.int .i64) _ 3 ?hg (N := 10) ?hd (xs := ([] : List Int)) (inner := []) (ok := fun _ => True) (okp := fun _ => True) ?hr ?hp (fun _ hk => hk) trivial (Below.refl _ _) (Nat.le_refl _) (by simp) ?_; (case hd => rfl); (case hg => rfl); (case hr => first | (go_simp; done) | (go_simp; rfl)); (case hp => exact (Reps.none _ _)); intro v192104 w8 ho9 hb hg_ hnew_; clear hg_ hnew_; (first | rw [← Ny192103.out] at ho9 | (simp only [Int.reduceToNat] at ho9; rw [← Ny192103.out] at ho9)); have n0_ := Aside0.mk (Kd.R_lower ho9 (below_size (by repeat (first | (with_reducible first | exact HB.out | apply below_alloc | apply pw_below_drewN | apply below_drew1 | refine below_set ?_ GE192101.out) | exact HB.out)))); have n1_ := Aside0.mk (blk_below (g := gb192101) (o := .cells #[.int .i64 a0_0, .int .i64 a0_1, .int .i64 a0_2, .slice A0_3 l0_3.length c0_3] 32 (0, 0)) (by (with_reducible repeat (first | refine blk_drewN ?_ _ | refine blk_drew ?_ | refine blk_alloc ?_ _)); exact BK192101.out) hb); have n2_ := Aside0.mk (below_step (by repeat (first | (with_reducible first | exact HB.out | apply below_alloc | apply pw_below_drewN | apply below_drew1 | refine below_set ?_ GE192101.out) | exact HB.out)) hb); clear BK192101; clear HB; have HO192105 := n0_; have BK192101 := n1_; have HB := n2_; clear n0_ n1_ n2_; clear hb ho9; have hcz10_0 : w8.cell? ⟨gb192101, 0, none⟩ = some (.int .i64 a0_0) := (blk_cell BK192101.out 0).trans rfl; have hcz10_1 : w8.cell? ⟨gb192101, 1, none⟩ = some (.int .i64 a0_1) := (blk_cell BK192101.out 1).trans rfl; have hcz10_2 : w8.cell? ⟨gb192101, 2, none⟩ = some (.int .i64 a0_2) := (blk_cell BK192101.out 2).trans rfl; have hcz10_3 : w8.cell? ⟨gb192101, 3, none⟩ = some (.slice A0_3 l0_3.length c0_3) := (blk_cell BK192101.out 3).trans rfl; have hfz10_0 := blk_frozen BK192101.out 0; have hfz10_1 := blk_frozen BK192101.out 1; have hfz10_2 := blk_frozen BK192101.out 2; have hfz10_3 := blk_frozen BK192101.out 3) | ((with_reducible refine gate_callee (f := 130) rfl ?_); refine goesL_ (some 12) rfl rfl Try.func130 (by kernel_rfl) rfl #[.agg #[.int .i64 a0_0, .int .i64 a0_1, .int .i64 a0_2, .slice A0_3 l0_3.length c0_3]] rfl (by (try simp only [List.map_toArray, List.map_cons, List.map_nil]); first | done | rfl | (simp only [List.length_drop, List.length_take]; rfl)) ?_; (with_reducible refine (impl_Board_far.calls k a0_0 a0_1 a0_2 _ _ l0_3 t192106 _ ?side1 ?side2 A4.out).mono ?_); (case side1 => repeat (first | exact (Kd.C_below HR0_3.out HB.out) | (with_reducible refine Kd.C_alloc ?_ _) | (with_reducible refine Kd.C_drewN ?_ _) | (with_reducible refine Kd.C_drew ?_))); (case side2 => exact HC0_3.out); rintro e w11 ⟨v192107, rfl, ho0, hb⟩; refine ⟨_, rfl, ?_⟩; have n0_ := Aside0.mk (Kd.R_elder' (by (with_reducible repeat (first | apply Kd.R_alloc | apply Kd.R_drewN | apply Kd.R_drew)); exact HO192105.out) (Kd.R_base ho0) hb); have n1_ := Aside0.mk (Kd.R_lower (Kd.R_new' ho0 (Kd.R_lt (by (with_reducible repeat (first | apply Kd.R_alloc | apply Kd.R_drewN | apply Kd.R_drew)); exact HO192105.out))) (below_size (by repeat (first | (with_reducible first | exact HB.out | apply below_alloc | apply pw_below_drewN | apply below_drew1 | refine below_set ?_ GE192101.out) | exact HB.out)))); have n2_ := Aside0.mk (blk_below (g := gb192101) (o := .cells #[.int .i64 a0_0, .int .i64 a0_1, .int .i64 a0_2, .slice A0_3 l0_3.length c0_3] 32 (0, 0)) (by (with_reducible repeat (first | refine blk_drewN ?_ _ | refine blk_drew ?_ | refine blk_alloc ?_ _)); exact BK192101.out) hb); have n3_ := Aside0.mk (below_step (by repeat (first | (with_reducible first | exact HB.out | apply below_alloc | apply pw_below_drewN | apply below_drew1 | refine below_set ?_ GE192101.out) | exact HB.out)) hb); clear HO192105; clear BK192101; clear HB; have HO192105 := n0_; have HO192108 := n1_; have BK192101 := n2_; have HB := n3_; clear n0_ n1_ n2_ n3_; (try clear hb); (try clear hb2); (try clear hk); (try clear hi); (try clear ho0); obtain ⟨Ao12, co12, eo12⟩ := Kd.R_slice HO192108.out; subst eo12))
  go_loopg [4, 14] k (fun kq v4 v14 w' => ∃ (x4_1 : List Int) (x14_1 : Int), v14 = .int .i64 x14_1 ∧ Aside0 (impl_HopelessSquares.l0 kq x4_1 t192106 (t192106.length : Int) x14_1 a0_0 a0_1 a0_2 l0_3 = some (r1, r2)) ∧ Aside0 (kq ≤ k) ∧ Aside0 (Kd.R (Kd.int .i64) 3 w' w.heap.size (fun k_ => some k_ ≠ ((.slice Ao12 t192106.length co12) : Value).ownBlock) v4 x4_1) ∧ Aside0 (Kd.R (Kd.int .i64) 3 w' w.heap.size (fun k_ => some k_ ≠ (v4 : Value).ownBlock) (.slice Ao12 t192106.length co12) t192106) ∧ Aside0 (w'.heap[gb192101]? = some (.cells #[.int .i64 a0_0, .int .i64 a0_1, .int .i64 a0_2, (.slice A0_3 l0_3.length c0_3)] 32 (0, 0))) ∧ Aside0 (Below w.heap.size w w'))
  case atStart => exact ⟨(y192103), (0), (by first | rfl | (simp; done) | (simp [*]; done)), H', ⟨Nat.le_refl _⟩, ⟨by (with_reducible repeat (first | apply Kd.R_alloc | apply Kd.R_drewN | apply Kd.R_drew)); exact Kd.R_mono HO192105.out (fun _ hk => hk.2)⟩, ⟨by (with_reducible repeat (first | apply Kd.R_alloc | apply Kd.R_drewN | apply Kd.R_drew)); exact Kd.R_mono HO192108.out (fun _ hk => hk.2)⟩, ⟨by (with_reducible repeat (first | refine blk_drewN ?_ _ | refine blk_drew ?_ | refine blk_alloc ?_ _)); exact BK192101.out⟩, ⟨by repeat (first | (with_reducible first | exact HB.out | apply below_alloc | apply pw_below_drewN | apply below_drew1 | refine below_set ?_ GE192101.out) | exact HB.out)⟩⟩
  case round =>
   clear H'
   try clear c1
   try clear p2
   try clear c3
   try clear c4
   try clear c9
   try clear hcz10_0
   try clear hcz10_1
   try clear hcz10_2
   try clear hcz10_3
   try clear hcz6_0
   try clear hcz6_1
   try clear hcz6_2
   try clear hcz6_3
   try clear hfz10_0
   try clear hfz10_1
   try clear hfz10_2
   try clear hfz10_3
   try clear hfz6_0
   try clear hfz6_1
   try clear hfz6_2
   try clear hfz6_3
   obtain ⟨x4_1, x14_1, rfl, HA, HK1, HO_4, HO_12, BK192101, HB⟩ := hrel
   cases gk with
   | zero => exact absurd HA.out (by simp [impl_HopelessSquares.l0])
   | succ k1 =>
    have H := HA.out
    clear HA
    simp only [impl_HopelessSquares.l0] at H
    by_cases c13 : x14_1 < (t192106.length : Int)
    ·rw [if_pos c13] at H
     have c13b0 : decide (x14_1 < (t192106.length : Int)) = true := decide_eq_true c13
     clear c13
     by_cases c14 : 0 ≤ x14_1
     ·rw [if_pos c14] at H
      have c14b0 : decide (0 ≤ x14_1) = true := decide_eq_true c14
      clear c14
      by_cases c15 : x14_1 < (t192106.length : Int)
      ·rw [if_pos c15] at H
       have c15b0 : decide (x14_1 < (t192106.length : Int)) = true := decide_eq_true c15
       clear c15
       by_cases c16 : (rd t192106 x14_1) < 0
       ·rw [if_pos c16] at H
        have c16b0 : decide ((rd t192106 x14_1) < 0) = true := decide_eq_true c16
        clear c16
        replace H := Option.bind_eq_some_iff.mp H
        obtain ⟨t192110, A170, H⟩ := H
        replace H : (if t192110 = true then (if x4_1.length < 17592186044416 then (impl_HopelessSquares.l0 k1 (x4_1 ++ [x14_1]) t192106 (t192106.length : Int) (wrap64 (x14_1 + 1)) a0_0 a0_1 a0_2 l0_3) else (none)) else (impl_HopelessSquares.l0 k1 x4_1 t192106 (t192106.length : Int) (wrap64 (x14_1 + 1)) a0_0 a0_1 a0_2 l0_3)) = some (r1, r2) := H
        have A17 := Aside0.mk A170
        clear A170
        by_cases c18 : t192110 = true
        ·subst c18
         have H1 : (if x4_1.length < 17592186044416 then (impl_HopelessSquares.l0 k1 (x4_1 ++ [x14_1]) t192106 (t192106.length : Int) (wrap64 (x14_1 + 1)) a0_0 a0_1 a0_2 l0_3) else (none)) = some (r1, r2) := by rw [if_pos rfl] at H; exact H
         clear H
         have H := H1
         clear H1
         by_cases c19 : x4_1.length < 17592186044416
         ·rw [if_pos c19] at H
          have LMc19 := Aside0.mk c19
          clear c19
          obtain ⟨y192111, hy192111⟩ : ∃ y_ : List Int, y_ = (x4_1 ++ [x14_1]) := ⟨_, rfl⟩
          replace H : (impl_HopelessSquares.l0 k1 y192111 t192106 (t192106.length : Int) (wrap64 (x14_1 + 1)) a0_0 a0_1 a0_2 l0_3) = some (r1, r2) := by first | (rw [hy192111]; with_reducible exact H) | (have H2_ := (Option.bind_some _ _).symm.trans H; rw [hy192111]; with_reducible exact H2_) | (have H2_ := (Option.bind_some _ _).symm.trans H; with_reducible exact H2_) | with_reducible exact H | (rw [hy192111]; exact H) | exact H
          have Ny192111 := Aside0.mk hy192111
          clear hy192111
          have H' := Aside0.mk H
          clear H
          have p192109 : 0 ≤ (x14_1 : Int) := of_decide_eq_true (by first | (with_reducible assumption) | assumption)
          have q192109 : x14_1 < (t192106.length : Int) := of_decide_eq_true (by first | (with_reducible assumption) | assumption)
          obtain ⟨ad192109, e192109, hx192109_0⟩ := Kd.at_int (Kd.R_reads' HO_12.out).2.2 x14_1 p192109 q192109
          cases e192109
          replace p192109 := eq_true p192109
          replace q192109 := eq_true q192109
          have hcz20_0 : wr.cell? ⟨gb192101, 0, none⟩ = some (.int .i64 a0_0) := (blk_cell BK192101.out 0).trans rfl
          have hcz20_1 : wr.cell? ⟨gb192101, 1, none⟩ = some (.int .i64 a0_1) := (blk_cell BK192101.out 1).trans rfl
          have hcz20_2 : wr.cell? ⟨gb192101, 2, none⟩ = some (.int .i64 a0_2) := (blk_cell BK192101.out 2).trans rfl
          have hcz20_3 : wr.cell? ⟨gb192101, 3, none⟩ = some (.slice A0_3 l0_3.length c0_3) := (blk_cell BK192101.out 3).trans rfl
          have hfz20_0 := blk_frozen BK192101.out 0
          have hfz20_1 := blk_frozen BK192101.out 1
          have hfz20_2 := blk_frozen BK192101.out 2
          have hfz20_3 := blk_frozen BK192101.out 3
          go_wp2_with (first | (go_at_call 166; (with_reducible refine (impl_Board_isSquare.calls k1 a0_0 a0_1 a0_2 _ _ l0_3 x14_1 true _ ?side1 ?side2 A17.out).mono ?_); (case side1 => repeat (first | exact (Kd.C_below HR0_3.out HB.out) | (with_reducible refine Kd.C_alloc ?_ _) | (with_reducible refine Kd.C_drewN ?_ _) | (with_reducible refine Kd.C_drew ?_))); (case side2 => exact HC0_3.out); rintro e w21 ⟨rfl, hb⟩; have n0_ := Aside0.mk (Kd.R_below (by (with_reducible repeat (first | apply Kd.R_alloc | apply Kd.R_drewN | apply Kd.R_drew)); exact HO_4.out) hb); have n1_ := Aside0.mk (Kd.R_below (by (with_reducible repeat (first | apply Kd.R_alloc | apply Kd.R_drewN | apply Kd.R_drew)); exact HO_12.out) hb); have n2_ := Aside0.mk (blk_below (g := gb192101) (o := .cells #[.int .i64 a0_0, .int .i64 a0_1, .int .i64 a0_2, .slice A0_3 l0_3.length c0_3] 32 (0, 0)) (by (with_reducible repeat (first | refine blk_drewN ?_ _ | refine blk_drew ?_ | refine blk_alloc ?_ _)); exact BK192101.out) hb); have n3_ := Aside0.mk (below_step (by repeat (first | (with_reducible first | exact HB.out | apply below_alloc | apply pw_below_drewN | apply below_drew1 | refine below_set ?_ GE192101.out) | exact HB.out)) hb); clear HO_4; clear HO_12; clear BK192101; clear HB; have HO_4 := n0_; have HO_12 := n1_; have BK192101 := n2_; have HB := n3_; clear n0_ n1_ n2_ n3_; (try clear hb); (try clear hb2); (try clear hk); (try clear hi)) | ((with_reducible refine gate_builtin (b := .append) (xs := #[.tmp 26, .tmp 28]) rfl ?_); at_builtin; refine Kd.R_append (Kd.int .i64) (w0 := w) w.heap.size rfl (.tmp 26) (.tmp 28) 58 3 (.int .i64 0) 8 rfl Try.underlying58 info3 rfl (by decide) (by omega) u4 x4_1 x14_1 [.int .i64 x14_1] (fun k_ => some k_ ≠ (.slice (some ad192109) t192106.length co12 : Value).ownBlock) (fun _ => False) rfl rfl ?aP (fun _ hk => hk.elim) ?aF ?aO ?aB ?aS ?aL ?_; (case aP => exact rfl); (case aB => exact (by repeat (first | (with_reducible first | exact HB.out | apply below_alloc | apply pw_below_drewN | apply below_drew1 | refine below_set ?_ GE192101.out) | exact HB.out))); (case aF => exact (fun k_ hk => Kd.fresh' (Kd.R_lt (by (with_reducible repeat (first | apply Kd.R_alloc | apply Kd.R_drewN | apply Kd.R_drew)); exact HO_12.out)) k_ hk)); (case aO => exact (by (with_reducible repeat (first | apply Kd.R_alloc | apply Kd.R_drewN | apply Kd.R_drew)); exact HO_4.out)); (case aS => exact (below_size (by repeat (first | (with_reducible first | exact HB.out | apply below_alloc | apply pw_below_drewN | apply below_drew1 | refine below_set ?_ GE192101.out) | exact HB.out)))); (case aL => have := LMc19.out; omega); intro v192112 w22 ho hb hg hat; rw [← Ny192111.out] at ho; have n0_ := Aside0.mk (Kd.R_after (ok := (fun _ => True)) (by (with_reducible repeat (first | apply Kd.R_alloc | apply Kd.R_drewN | apply Kd.R_drew)); exact Kd.R_mono HO_12.out (fun _ hk => ⟨trivial, hk⟩)) hg hat); have n1_ := Aside0.mk (blk_grown (g := gb192101) (o := .cells #[.int .i64 a0_0, .int .i64 a0_1, .int .i64 a0_2, .slice A0_3 l0_3.length c0_3] 32 (0, 0)) (by (with_reducible repeat (first | refine blk_drewN ?_ _ | refine blk_drew ?_ | refine blk_alloc ?_ _)); exact BK192101.out) hg (Kd.R_ne HO_4.out BK192101.out (by decide))); have n2_ := Aside0.mk (hb); have n3_ := Aside0.mk (ho); clear HO_12; clear BK192101; clear HB; clear HO_4; have HO_12 := n0_; have BK192101 := n1_; have HB := n2_; have HO192113 := n3_; clear n0_ n1_ n2_ n3_; clear ho hb hg hat))
          go_roundg k1
          case measure => have := HK1.out; omega
          case rel => exact ⟨(y192111), (wrap64 (x14_1 + 1)), (by first | rfl | (simp; done) | (simp [*]; done)), H', ⟨by have := HK1.out; omega⟩, ⟨by (with_reducible repeat (first | apply Kd.R_alloc | apply Kd.R_drewN | apply Kd.R_drew)); exact HO192113.out⟩, ⟨by (with_reducible repeat (first | apply Kd.R_alloc | apply Kd.R_drewN | apply Kd.R_drew)); exact Kd.R_mono HO_12.out (fun _ hk => hk.2)⟩, ⟨by (with_reducible repeat (first | refine blk_drewN ?_ _ | refine blk_drew ?_ | refine blk_alloc ?_ _)); exact BK192101.out⟩, ⟨by repeat (first | (with_reducible first | exact HB.out | apply below_alloc | apply pw_below_drewN | apply below_drew1 | refine below_set ?_ GE192101.out) | exact HB.out)⟩⟩
         ·rw [if_neg c19] at H
          exact absurd H (by simp)
        ·replace c18 := Bool.eq_false_iff.mpr c18
         subst c18
         have H1 : (impl_HopelessSquares.l0 k1 x4_1 t192106 (t192106.length : Int) (wrap64 (x14_1 + 1)) a0_0 a0_1 a0_2 l0_3) = some (r1, r2) := by rw [if_neg (show ¬ (false = true) by decide)] at H; exact H
         clear H
         have H := H1
         clear H1
         have H' := Aside0.mk H
         clear H
         have p192109 : 0 ≤ (x14_1 : Int) := of_decide_eq_true (by first | (with_reducible assumption) | assumption)
         have q192109 : x14_1 < (t192106.length : Int) := of_decide_eq_true (by first | (with_reducible assumption) | assumption)
         obtain ⟨ad192109, e192109, hx192109_0⟩ := Kd.at_int (Kd.R_reads' HO_12.out).2.2 x14_1 p192109 q192109
         cases e192109
         replace p192109 := eq_true p192109
         replace q192109 := eq_true q192109
         have hcz23_0 : wr.cell? ⟨gb192101, 0, none⟩ = some (.int .i64 a0_0) := (blk_cell BK192101.out 0).trans rfl
         have hcz23_1 : wr.cell? ⟨gb192101, 1, none⟩ = some (.int .i64 a0_1) := (blk_cell BK192101.out 1).trans rfl
         have hcz23_2 : wr.cell? ⟨gb192101, 2, none⟩ = some (.int .i64 a0_2) := (blk_cell BK192101.out 2).trans rfl
         have hcz23_3 : wr.cell? ⟨gb192101, 3, none⟩ = some (.slice A0_3 l0_3.length c0_3) := (blk_cell BK192101.out 3).trans rfl
         have hfz23_0 := blk_frozen BK192101.out 0
         have hfz23_1 := blk_frozen BK192101.out 1
         have hfz23_2 := blk_frozen BK192101.out 2
         have hfz23_3 := blk_frozen BK192101.out 3
         go_wp2_with (first | (go_at_call 166; (with_reducible refine (impl_Board_isSquare.calls k1 a0_0 a0_1 a0_2 _ _ l0_3 x14_1 false _ ?side1 ?side2 A17.out).mono ?_); (case side1 => repeat (first | exact (Kd.C_below HR0_3.out HB.out) | (with_reducible refine Kd.C_alloc ?_ _) | (with_reducible refine Kd.C_drewN ?_ _) | (with_reducible refine Kd.C_drew ?_))); (case side2 => exact HC0_3.out); rintro e w24 ⟨rfl, hb⟩; have n0_ := Aside0.mk (Kd.R_below (by (with_reducible repeat (first | apply Kd.R_alloc | apply Kd.R_drewN | apply Kd.R_drew)); exact HO_4.out) hb); have n1_ := Aside0.mk (Kd.R_below (by (with_reducible repeat (first | apply Kd.R_alloc | apply Kd.R_drewN | apply Kd.R_drew)); exact HO_12.out) hb); have n2_ := Aside0.mk (blk_below (g := gb192101) (o := .cells #[.int .i64 a0_0, .int .i64 a0_1, .int .i64 a0_2, .slice A0_3 l0_3.length c0_3] 32 (0, 0)) (by (with_reducible repeat (first | refine blk_drewN ?_ _ | refine blk_drew ?_ | refine blk_alloc ?_ _)); exact BK192101.out) hb); have n3_ := Aside0.mk (below_step (by repeat (first | (with_reducible first | exact HB.out | apply below_alloc | apply pw_below_drewN | apply below_drew1 | refine below_set ?_ GE192101.out) | exact HB.out)) hb); clear HO_4; clear HO_12; clear BK192101; clear HB; have HO_4 := n0_; have HO_12 := n1_; have BK192101 := n2_; have HB := n3_; clear n0_ n1_ n2_ n3_; (try clear hb); (try clear hb2); (try clear hk); (try clear hi)))
         go_roundg k1
         case measure => have := HK1.out; omega
         case rel => exact ⟨(x4_1), (wrap64 (x14_1 + 1)), (by first | rfl | (simp; done) | (simp [*]; done)), H', ⟨by have := HK1.out; omega⟩, ⟨by (with_reducible repeat (first | apply Kd.R_alloc | apply Kd.R_drewN | apply Kd.R_drew)); exact HO_4.out⟩, ⟨by (with_reducible repeat (first | apply Kd.R_alloc | apply Kd.R_drewN | apply Kd.R_drew)); exact HO_12.out⟩, ⟨by (with_reducible repeat (first | refine blk_drewN ?_ _ | refine blk_drew ?_ | refine blk_alloc ?_ _)); exact BK192101.out⟩, ⟨by repeat (first | (with_reducible first | exact HB.out | apply below_alloc | apply pw_below_drewN | apply below_drew1 | refine below_set ?_ GE192101.out) | exact HB.out)⟩⟩
       ·rw [if_neg c16] at H
        have c16b0 : decide ((rd t192106 x14_1) < 0) = false := decide_eq_false c16
        clear c16
        have H' := Aside0.mk H
        clear H
        have p192109 : 0 ≤ (x14_1 : Int) := of_decide_eq_true (by first | (with_reducible assumption) | assumption)
        have q192109 : x14_1 < (t192106.length : Int) := of_decide_eq_true (by first | (with_reducible assumption) | assumption)
        obtain ⟨ad192109, e192109, hx192109_0⟩ := Kd.at_int (Kd.R_reads' HO_12.out).2.2 x14_1 p192109 q192109
        cases e192109
        replace p192109 := eq_true p192109
        replace q192109 := eq_true q192109
        go_wp2
        go_roundg k1
        case measure => have := HK1.out; omega
        case rel => exact ⟨(x4_1), (wrap64 (x14_1 + 1)), (by first | rfl | (simp; done) | (simp [*]; done)), H', ⟨by have := HK1.out; omega⟩, ⟨by (with_reducible repeat (first | apply Kd.R_alloc | apply Kd.R_drewN | apply Kd.R_drew)); exact HO_4.out⟩, ⟨by (with_reducible repeat (first | apply Kd.R_alloc | apply Kd.R_drewN | apply Kd.R_drew)); exact HO_12.out⟩, ⟨by (with_reducible repeat (first | refine blk_drewN ?_ _ | refine blk_drew ?_ | refine blk_alloc ?_ _)); exact BK192101.out⟩, ⟨by repeat (first | (with_reducible first | exact HB.out | apply below_alloc | apply pw_below_drewN | apply below_drew1 | refine below_set ?_ GE192101.out) | exact HB.out)⟩⟩
      ·rw [if_neg c15] at H
       exact absurd H (by simp)
     ·rw [if_neg c14] at H
      exact absurd H (by simp)
    ·rw [if_neg c13] at H
     have c13b0 : decide (x14_1 < (t192106.length : Int)) = false := decide_eq_false c13
     clear c13
     simp only [Option.some.injEq, Prod.mk.injEq] at H
     obtain ⟨rfl, rfl⟩ := H
     go_wp2
     go_ret2
     exact ⟨_, by first | rfl | (simp [errW_none, errW_some] <;> rfl) | (simp [*, errW_none, errW_some] <;> rfl), by (with_reducible repeat (first | apply Kd.R_alloc | apply Kd.R_drewN | apply Kd.R_drew)); exact Kd.R_mono HO_4.out (fun _ hk => trivial), by repeat (first | (with_reducible first | exact HB.out | apply below_alloc | apply pw_below_drewN | apply below_drew1 | refine below_set ?_ GE192101.out) | exact HB.out)⟩
 ·replace c3 := Bool.eq_false_iff.mpr c3
  subst c3
  have H1 : (some (([] : List Int), false)) = some (r1, r2) := by rw [if_neg (show ¬ (false = true) by decide)] at H; exact H
  clear H
  have H := H1
  clear H1
  simp only [Option.some.injEq, Prod.mk.injEq] at H
  obtain ⟨rfl, rfl⟩ := H
  go_enter Try.func96, Try.ntmps96
  go_wp2_with (first | ((with_reducible refine gate_dst (N := 1) rfl ?_); refine box_event ?hg (N := 1) ?hd (cs := #[.int .i64 a0_0, .int .i64 a0_1, .int .i64 a0_2, .slice A0_3 l0_3.length c0_3]) (t := 32) ?hr ?_; (case hd => rfl); (case hg => rfl); (case hr => first | (go_simp; done) | (go_simp; rfl)); intro gb192101 hg w25 hbox hb; have n0_ := Aside0.mk (below_step (by repeat (first | (with_reducible first | exact HB.out | apply below_alloc | apply pw_below_drewN | apply below_drew1) | exact HB.out)) hb); have n1_ := Aside0.mk (hbox); have n2_ := Aside0.mk ((by rw [hg]; exact (below_size (by repeat (first | (with_reducible first | exact HB.out | apply below_alloc | apply pw_below_drewN | apply below_drew1) | exact HB.out))) : w.heap.size ≤ gb192101)); have n3_ := Aside0.mk ((by rw [hg]; exact (below_size (by repeat (first | (with_reducible first | exact HB.out | apply below_alloc | apply pw_below_drewN | apply below_drew1) | exact HB.out))) : w.heap.size ≤ gb192101)); clear HB; have HB := n0_; have BK192101 := n1_; have GW192101 := n2_; have GE192101 := n3_; clear n0_ n1_ n2_ n3_; clear hb hbox hg; have hcz26_0 : w25.cell? ⟨gb192101, 0, none⟩ = some (.int .i64 a0_0) := (blk_cell BK192101.out 0).trans rfl; have hcz26_1 : w25.cell? ⟨gb192101, 1, none⟩ = some (.int .i64 a0_1) := (blk_cell BK192101.out 1).trans rfl; have hcz26_2 : w25.cell? ⟨gb192101, 2, none⟩ = some (.int .i64 a0_2) := (blk_cell BK192101.out 2).trans rfl; have hcz26_3 : w25.cell? ⟨gb192101, 3, none⟩ = some (.slice A0_3 l0_3.length c0_3) := (blk_cell BK192101.out 3).trans rfl; have hfz26_0 := blk_frozen BK192101.out 0; have hfz26_1 := blk_frozen BK192101.out 1; have hfz26_2 := blk_frozen BK192101.out 2; have hfz26_3 := blk_frozen BK192101.out 3) | ((with_reducible refine gate_callee (f := 44) rfl ?_); refine goesL_ (some 8) rfl rfl Try.func44 (by kernel_rfl) rfl #[.agg #[.int .i64 a0_0, .int .i64 a0_1, .int .i64 a0_2, .slice A0_3 l0_3.length c0_3]] rfl (by (try simp only [List.map_toArray, List.map_cons, List.map_nil]); first | done | rfl | (simp only [List.length_drop, List.length_take]; rfl)) ?_; (with_reducible refine (impl_IsBoard.calls k a0_0 a0_1 a0_2 _ _ l0_3 false _ ?side1 ?side2 A2.out).mono ?_); (case side1 => repeat (first | exact (Kd.C_below HR0_3.out HB.out) | (with_reducible refine Kd.C_alloc ?_ _) | (with_reducible refine Kd.C_drewN ?_ _) | (with_reducible refine Kd.C_drew ?_))); (case side2 => exact HC0_3.out); rintro e w27 ⟨rfl, hb⟩; refine ⟨_, rfl, ?_⟩; have n0_ := Aside0.mk (blk_below (g := gb192101) (o := .cells #[.int .i64 a0_0, .int .i64 a0_1, .int .i64 a0_2, .slice A0_3 l0_3.length c0_3] 32 (0, 0)) (by (with_reducible repeat (first | refine blk_drewN ?_ _ | refine blk_drew ?_ | refine blk_alloc ?_ _)); exact BK192101.out) hb); have n1_ := Aside0.mk (below_step (by repeat (first | (with_reducible first | exact HB.out | apply below_alloc | apply pw_below_drewN | apply below_drew1 | refine below_set ?_ GE192101.out) | exact HB.out)) hb); clear BK192101; clear HB; have BK192101 := n0_; have HB := n1_; clear n0_ n1_; (try clear hb); (try clear hb2); (try clear hk); (try clear hi)))
  go_ret2
  exact ⟨_, by first | rfl | (simp [errW_none, errW_some] <;> rfl) | (simp [*, errW_none, errW_some] <;> rfl), by first | exact Kd.R_nil _ _ _ _ _ | exact Kd.N_nil _ _ _ _ _ | exact Kd.V_nil _ _ _ _ _ | exact Kd.Q_nil _ _ _ _ _ | exact Kd.S_nil _ _ _ _ _, by repeat (first | (with_reducible first | exact HB.out | apply below_alloc | apply pw_below_drewN | apply below_drew1 | refine below_set ?_ GE192101.out) | exact HB.out)⟩

end Go.Proofs.Ytkobjjadojpjfaa.Pr
