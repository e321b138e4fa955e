-- A text of the machine side, written by wip/gen.py of this repo out of the translation. Not trusted: Lean checks it.
import Derived.Test.YtkobjjadojpjfaaF0
import Derived.Test.YtkobjjadojpjfaaFGB
import Derived.Test.YtkobjjadojpjfaaFImplBoardFar
import Derived.Test.YtkobjjadojpjfaaHareSquares
namespace Go.Proofs.Ytkobjjadojpjfaa.Pr
open Go.RowKit Go.Proofs.YtkobjjadojpjfaaW.PrintWords Go.Proofs.YtkobjjadojpjfaaW.PrintLast Go.Proofs.YtkobjjadojpjfaaW.PrintMore
attribute [local go_sem] max2_int min2_int max_two min_two max_three min_three max_four min_four   -- for this text's walks alone
set_option linter.unusedVariables false
set_option linter.unusedSimpArgs false

abbrev bImplFirstThrows_0 : Array Bool := #[false, false, false, false, false, false, false, false, false, false, false, false, false]
abbrev bImplFirstThrows_1 : Array Bool := #[true, false, false, false, false, false, false, false, false, false, false, false, false]
abbrev bImplFirstThrows_2 : Array Bool := #[true, false, true, false, false, false, false, false, false, false, false, false, false]
abbrev bImplFirstThrows_3 : Array Bool := #[true, false, true, true, false, false, false, false, false, false, false, false, false]
abbrev bImplFirstThrows_4 : Array Bool := #[true, false, true, true, false, false, false, true, false, false, false, false, false]
abbrev bImplFirstThrows_5 : Array Bool := #[true, false, true, true, false, false, false, true, true, false, false, false, false]
abbrev bImplFirstThrows_6 : Array Bool := #[true, false, true, true, false, false, false, true, true, true, false, false, false]
abbrev bImplFirstThrows_7 : Array Bool := #[true, true, true, true, false, false, false, true, true, true, false, false, false]
abbrev bImplFirstThrows_8 : Array Bool := #[true, true, true, true, false, false, false, true, true, true, true, false, false]
abbrev bImplFirstThrows_9 : Array Bool := #[true, true, true, true, false, false, false, true, true, true, true, true, false]
abbrev bImplFirstThrows_10 : Array Bool := #[true, true, true, true, true, false, false, true, true, true, true, true, false]
abbrev bImplFirstThrows_11 : Array Bool := #[true, true, true, true, true, true, false, true, true, true, true, true, false]
abbrev bImplFirstThrows_12 : Array Bool := #[true, true, true, true, true, true, true, true, true, true, true, true, false]
abbrev bImplFirstThrows_13 : Array Bool := #[true, true, true, true, true, true, true, true, true, true, true, true, true]
/-! ### impl_FirstThrows: function 109 -/
mutual
def impl_FirstThrows.l0 : Nat → Int → List Int → List Int → Int → Int → Int → List (S27) → Option (List Int × Bool)
 | 0, _, _, _, _, _, _, _ => none
 | k + 1, x1, x6, x7, x218102000, x218102001, x218102002, x218102003 => if x1 = x218102000 then (some (x7, true)) else (impl_FirstThrows.l1 k x1 x6 x7 1 x218102000 x218102001 x218102002 x218102003)
def impl_FirstThrows.l1 : Nat → Int → List Int → List Int → Int → Int → Int → Int → List (S27) → Option (List Int × Bool)
 | 0, _, _, _, _, _, _, _, _ => none
 | k + 1, x1, x6, x7, x8, x218102000, x218102001, x218102002, x218102003 => (impl_Board_throw.f k x218102000 x218102001 x218102002 x218102003 x1 x8).bind fun t218113 => (if 0 ≤ t218113 then (if t218113 < (x6.length : Int) then (if 0 ≤ x1 then (if x1 < (x6.length : Int) then (if (rd x6 t218113) = (wrap64 ((rd x6 x1) - 1)) then (if x7.length < 17592186044416 then ((impl_Board_throw.f k x218102000 x218102001 x218102002 x218102003 x1 x8).bind fun t218119 => (impl_FirstThrows.l0 k t218119 x6 (x7 ++ [x8]) x218102000 x218102001 x218102002 x218102003)) else (none)) else (impl_FirstThrows.l1 k x1 x6 x7 (wrap64 (x8 + 1)) x218102000 x218102001 x218102002 x218102003)) else (none)) else (none)) else (none)) else (none))
end
def impl_FirstThrows.f (k : Nat) (a0_0 : Int) (a0_1 : Int) (a0_2 : Int) (l0_3 : List (S27)) (a1 : Int) : Option (List Int × Bool) := (impl_areSquares.f k a0_0 a0_1 a0_2 l0_3 (([a1] : List Int))).bind fun t218105 => (if t218105 = true then ((impl_Board_far.f k a0_0 a0_1 a0_2 l0_3).bind fun t218106 => (if 0 ≤ a1 then (if a1 < (t218106.length : Int) then (if (rd t218106 a1) < 0 then (some (([] : List Int), false)) else (impl_FirstThrows.l0 k a1 t218106 (([] : List Int)) a0_0 a0_1 a0_2 l0_3)) else (none)) else (none))) else (some (([] : List Int), false)))
def impl_FirstThrows.T8 : Bool × List (List Nat × List Nat) := (true, [([], []), ([], []), ([], []), ([], []), ([1, 2, 3], [1, 2, 3]), ([0, 4], [0, 4]), ([5], [5]), ([], []), ([], []), ([7, 8], [7, 8]), ([9], [9]), ([10], [10]), ([6, 11], [6, 11])])
def impl_FirstThrows.B8 : List Nat := [0, 0, 0, 0, 14, 31, 63, 0, 0, 384, 896, 1920, 4095]
theorem impl_FirstThrows.tab8 : rtab .any (opsOf Try.f109 8) = impl_FirstThrows.T8 := by kernel_rfl
theorem impl_FirstThrows.bits8 : waitsOk impl_FirstThrows.T8.2 impl_FirstThrows.B8 = true := by kernel_rfl
def impl_FirstThrows.T10 : Bool × List (List Nat × List Nat) := (true, [([], []), ([], []), ([1], [1]), ([0, 2], [0, 2]), ([], []), ([], []), ([], []), ([4, 5, 6, 3], [4, 5, 6]), ([3, 7, 0, 1, 2, 3], [0, 3]), ([7, 8, 0, 1, 2, 3, 4, 5, 6, 7, 8], [5, 7])])
def impl_FirstThrows.B10 : List Nat := [0, 0, 2, 7, 0, 0, 0, 127, 255, 511]
theorem impl_FirstThrows.tab10 : rtab .any (opsOf Try.f109 10) = impl_FirstThrows.T10 := by kernel_rfl
theorem impl_FirstThrows.bits10 : waitsOk impl_FirstThrows.T10.2 impl_FirstThrows.B10 = true := by kernel_rfl
set_option maxHeartbeats 8000000 in
set_option maxRecDepth 100000 in
theorem impl_FirstThrows.calls (k : Nat) (a0_0 : Int) (a0_1 : Int) (a0_2 : Int) (A0_3 : Option Addr) (c0_3 : Nat) (l0_3 : List (S27)) (a1 : Int) (r1 : List Int) (r2 : Bool) (w : World) (hr0_3 : Kd.C k27 w A0_3 l0_3.length l0_3) (hc0_3 : l0_3.length ≤ c0_3) (h : impl_FirstThrows.f k a0_0 a0_1 a0_2 l0_3 a1 = some (r1, r2)) :
  Calls Try.prog 109 #[.agg #[.int .i64 a0_0, .int .i64 a0_1, .int .i64 a0_2, .slice A0_3 l0_3.length c0_3], .int .i64 a1] w fun e w' => ∃ v0_ : Value, e = .returned (.tuple #[v0_, .bool r2]) ∧ Kd.R (Kd.int .i64) 3 w' w.heap.size (fun _ => True) v0_ r1 ∧ Below w.heap.size w w' := by
 have hu32 := Try.underlying32
 have HR0_3 := Aside0.mk hr0_3
 have HC0_3 := Aside0.mk hc0_3
 clear hr0_3 hc0_3
 have HB := Aside0.mk (Below.refl w.heap.size w)
 have H : ((impl_areSquares.f k a0_0 a0_1 a0_2 l0_3 (([a1] : List Int))).bind fun t218105 => (if t218105 = true then ((impl_Board_far.f k a0_0 a0_1 a0_2 l0_3).bind fun t218106 => (if 0 ≤ a1 then (if a1 < (t218106.length : Int) then (if (rd t218106 a1) < 0 then (some (([] : List Int), false)) else (impl_FirstThrows.l0 k a1 t218106 (([] : List Int)) a0_0 a0_1 a0_2 l0_3)) else (none)) else (none))) else (some (([] : List Int), false)))) = some (r1, r2) := h
 clear h
 obtain ⟨y218102, hy218102⟩ : ∃ y_ : List Int, y_ = (([a1] : List Int)) := ⟨_, rfl⟩
 replace H : ((impl_areSquares.f k a0_0 a0_1 a0_2 l0_3 y218102).bind fun t218105 => (if t218105 = true then ((impl_Board_far.f k a0_0 a0_1 a0_2 l0_3).bind fun t218106 => (if 0 ≤ a1 then (if a1 < (t218106.length : Int) then (if (rd t218106 a1) < 0 then (some (([] : List Int), false)) else (impl_FirstThrows.l0 k a1 t218106 (([] : List Int)) a0_0 a0_1 a0_2 l0_3)) else (none)) else (none))) else (some (([] : List Int), false)))) = some (r1, r2) := by first | (rw [hy218102]; with_reducible exact H) | (have H2_ := (Option.bind_some _ _).symm.trans H; rw [hy218102]; with_reducible exact H2_) | (have H2_ := (Option.bind_some _ _).symm.trans H; with_reducible exact H2_) | with_reducible exact H | (rw [hy218102]; exact H) | exact H
 have Ny218102 := Aside0.mk hy218102
 clear hy218102
 replace H := Option.bind_eq_some_iff.mp H
 obtain ⟨t218105, A30, H⟩ := H
 replace H : (if t218105 = true then ((impl_Board_far.f k a0_0 a0_1 a0_2 l0_3).bind fun t218106 => (if 0 ≤ a1 then (if a1 < (t218106.length : Int) then (if (rd t218106 a1) < 0 then (some (([] : List Int), false)) else (impl_FirstThrows.l0 k a1 t218106 (([] : List Int)) a0_0 a0_1 a0_2 l0_3)) else (none)) else (none))) else (some (([] : List Int), false))) = some (r1, r2) := H
 have A3 := Aside0.mk A30
 clear A30
 by_cases c4 : t218105 = true
 ·subst c4
  have H1 : ((impl_Board_far.f k a0_0 a0_1 a0_2 l0_3).bind fun t218106 => (if 0 ≤ a1 then (if a1 < (t218106.length : Int) then (if (rd t218106 a1) < 0 then (some (([] : List Int), false)) else (impl_FirstThrows.l0 k a1 t218106 (([] : List Int)) a0_0 a0_1 a0_2 l0_3)) else (none)) else (none))) = some (r1, r2) := by rw [if_pos rfl] at H; exact H
  clear H
  have H := H1
  clear H1
  replace H := Option.bind_eq_some_iff.mp H
  obtain ⟨t218106, A50, H⟩ := H
  replace H : (if 0 ≤ a1 then (if a1 < (t218106.length : Int) then (if (rd t218106 a1) < 0 then (some (([] : List Int), false)) else (impl_FirstThrows.l0 k a1 t218106 (([] : List Int)) a0_0 a0_1 a0_2 l0_3)) else (none)) else (none)) = some (r1, r2) := H
  have A5 := Aside0.mk A50
  clear A50
  obtain ⟨y218109, hy218109⟩ : ∃ y_ : List Int, y_ = (([] : List Int)) := ⟨_, rfl⟩
  replace H : (if 0 ≤ a1 then (if a1 < (t218106.length : Int) then (if (rd t218106 a1) < 0 then (some (([] : List Int), false)) else (impl_FirstThrows.l0 k a1 t218106 y218109 a0_0 a0_1 a0_2 l0_3)) else (none)) else (none)) = some (r1, r2) := by first | (rw [hy218109]; with_reducible exact H) | (have H2_ := (Option.bind_some _ _).symm.trans H; rw [hy218109]; with_reducible exact H2_) | (have H2_ := (Option.bind_some _ _).symm.trans H; with_reducible exact H2_) | with_reducible exact H | (rw [hy218109]; exact H) | exact H
  have Ny218109 := Aside0.mk hy218109
  clear hy218109
  by_cases c6 : 0 ≤ a1
  ·rw [if_pos c6] at H
   have c6b0 : decide (0 ≤ a1) = true := decide_eq_true c6
   clear c6
   by_cases c7 : a1 < (t218106.length : Int)
   ·rw [if_pos c7] at H
    have c7b0 : decide (a1 < (t218106.length : Int)) = true := decide_eq_true c7
    clear c7
    by_cases c8 : (rd t218106 a1) < 0
    ·rw [if_pos c8] at H
     have c8b0 : decide ((rd t218106 a1) < 0) = true := decide_eq_true c8
     clear c8
     simp only [Option.some.injEq, Prod.mk.injEq] at H
     obtain ⟨rfl, rfl⟩ := H
     go_enter Try.func109, Try.ntmps109
     go_wp2_with (first | ((with_reducible refine gate_dst (N := 2) rfl ?_); refine box_event ?hg (N := 2) ?hd (cs := #[.int .i64 a0_0, .int .i64 a0_1, .int .i64 a0_2, .slice A0_3 l0_3.length c0_3]) (t := 32) ?hr ?_; (case hd => rfl); (case hg => rfl); (case hr => first | (go_simp; done) | (go_simp; rfl)); intro gb218101 hg w9 hbox hb; have n0_ := Aside0.mk (below_step (by repeat (first | (with_reducible first | exact HB.out | apply below_alloc | apply pw_below_drewN | apply below_drew1) | exact HB.out)) hb); have n1_ := Aside0.mk (hbox); have n2_ := Aside0.mk ((by rw [hg]; exact (below_size (by repeat (first | (with_reducible first | exact HB.out | apply below_alloc | apply pw_below_drewN | apply below_drew1) | exact HB.out))) : w.heap.size ≤ gb218101)); have n3_ := Aside0.mk ((by rw [hg]; exact (below_size (by repeat (first | (with_reducible first | exact HB.out | apply below_alloc | apply pw_below_drewN | apply below_drew1) | exact HB.out))) : w.heap.size ≤ gb218101)); clear HB; have HB := n0_; have BK218101 := n1_; have GW218101 := n2_; have GE218101 := n3_; clear n0_ n1_ n2_ n3_; clear hb hbox hg; have hcz10_0 : w9.cell? ⟨gb218101, 0, none⟩ = some (.int .i64 a0_0) := (blk_cell BK218101.out 0).trans rfl; have hcz10_1 : w9.cell? ⟨gb218101, 1, none⟩ = some (.int .i64 a0_1) := (blk_cell BK218101.out 1).trans rfl; have hcz10_2 : w9.cell? ⟨gb218101, 2, none⟩ = some (.int .i64 a0_2) := (blk_cell BK218101.out 2).trans rfl; have hcz10_3 : w9.cell? ⟨gb218101, 3, none⟩ = some (.slice A0_3 l0_3.length c0_3) := (blk_cell BK218101.out 3).trans rfl; have hfz10_0 := blk_frozen BK218101.out 0; have hfz10_1 := blk_frozen BK218101.out 1; have hfz10_2 := blk_frozen BK218101.out 2; have hfz10_3 := blk_frozen BK218101.out 3) | ((with_reducible refine gate_dst (N := 11) rfl ?_); refine Kd.R_lit (Kd.int .i64) _ 3 ?hg (N := 11) ?hd (xs := ([a1] : List Int)) (inner := [.int .i64 a1]) (ok := fun _ => True) (okp := fun _ => True) ?hr ?hp (fun _ hk => hk) trivial (Below.refl _ _) (Nat.le_refl _) (by simp) ?_; (case hd => rfl); (case hg => rfl); (case hr => first | (go_simp; done) | (go_simp; rfl)); (case hp => exact (Reps.one (show Kd.M (Kd.int .i64) _ _ _ a1 [.int .i64 a1] from rfl) (Reps.none _ _))); intro v218103 w11 ho12 hb hg_ hnew_; clear hg_ hnew_; (first | rw [← Ny218102.out] at ho12 | (simp only [Int.reduceToNat] at ho12; rw [← Ny218102.out] at ho12)); have n0_ := Aside0.mk (Kd.R_lower ho12 (below_size (by repeat (first | (with_reducible first | exact HB.out | apply below_alloc | apply pw_below_drewN | apply below_drew1 | refine below_set ?_ GE218101.out) | exact HB.out)))); have n1_ := Aside0.mk (blk_below (g := gb218101) (o := .cells #[.int .i64 a0_0, .int .i64 a0_1, .int .i64 a0_2, .slice A0_3 l0_3.length c0_3] 32 (0, 0)) (by (with_reducible repeat (first | refine blk_drewN ?_ _ | refine blk_drew ?_ | refine blk_alloc ?_ _)); exact BK218101.out) hb); have n2_ := Aside0.mk (below_step (by repeat (first | (with_reducible first | exact HB.out | apply below_alloc | apply pw_below_drewN | apply below_drew1 | refine below_set ?_ GE218101.out) | exact HB.out)) hb); clear BK218101; clear HB; have HO218104 := n0_; have BK218101 := n1_; have HB := n2_; clear n0_ n1_ n2_; clear hb ho12; obtain ⟨Ao13, co13, eo13⟩ := Kd.R_slice HO218104.out; subst eo13) | ((with_reducible refine gate_callee (f := 134) rfl ?_); refine goesL_ (some 12) rfl rfl Try.func134 (by kernel_rfl) rfl #[.agg #[.int .i64 a0_0, .int .i64 a0_1, .int .i64 a0_2, .slice A0_3 l0_3.length c0_3], .slice Ao13 y218102.length co13] rfl (by (try simp only [List.map_toArray, List.map_cons, List.map_nil]); first | done | rfl | (simp only [List.length_drop, List.length_take]; rfl)) ?_; (with_reducible refine (impl_areSquares.calls k a0_0 a0_1 a0_2 _ _ l0_3 _ _ y218102 true _ ?side1 ?side2 ?side3 ?side4 A3.out).mono ?_); (case side1 => repeat (first | exact (Kd.C_below HR0_3.out HB.out) | (with_reducible refine Kd.C_alloc ?_ _) | (with_reducible refine Kd.C_drewN ?_ _) | (with_reducible refine Kd.C_drew ?_))); (case side2 => exact HC0_3.out); (case side3 => repeat (first | exact (Kd.R_reads' HO218104.out).2.2 | (with_reducible refine Kd.C_alloc ?_ _) | (with_reducible refine Kd.C_drewN ?_ _) | (with_reducible refine Kd.C_drew ?_))); (case side4 => exact (Kd.R_reads' HO218104.out).2.1); rintro e w14 ⟨rfl, hb⟩; refine ⟨_, rfl, ?_⟩; have n0_ := Aside0.mk (Kd.R_below (by (with_reducible repeat (first | apply Kd.R_alloc | apply Kd.R_drewN | apply Kd.R_drew)); exact HO218104.out) hb); have n1_ := Aside0.mk (blk_below (g := gb218101) (o := .cells #[.int .i64 a0_0, .int .i64 a0_1, .int .i64 a0_2, .slice A0_3 l0_3.length c0_3] 32 (0, 0)) (by (with_reducible repeat (first | refine blk_drewN ?_ _ | refine blk_drew ?_ | refine blk_alloc ?_ _)); exact BK218101.out) hb); have n2_ := Aside0.mk (below_step (by repeat (first | (with_reducible first | exact HB.out | apply below_alloc | apply pw_below_drewN | apply below_drew1 | refine below_set ?_ GE218101.out) | exact HB.out)) hb); clear HO218104; clear BK218101; clear HB; have HO218104 := n0_; have BK218101 := n1_; have HB := n2_; clear n0_ n1_ n2_; (try clear hb); (try clear hb2); (try clear hk); (try clear hi); have hcz15_0 : w14.cell? ⟨gb218101, 0, none⟩ = some (.int .i64 a0_0) := (blk_cell BK218101.out 0).trans rfl; have hcz15_1 : w14.cell? ⟨gb218101, 1, none⟩ = some (.int .i64 a0_1) := (blk_cell BK218101.out 1).trans rfl; have hcz15_2 : w14.cell? ⟨gb218101, 2, none⟩ = some (.int .i64 a0_2) := (blk_cell BK218101.out 2).trans rfl; have hcz15_3 : w14.cell? ⟨gb218101, 3, none⟩ = some (.slice A0_3 l0_3.length c0_3) := (blk_cell BK218101.out 3).trans rfl; have hfz15_0 := blk_frozen BK218101.out 0; have hfz15_1 := blk_frozen BK218101.out 1; have hfz15_2 := blk_frozen BK218101.out 2; have hfz15_3 := blk_frozen BK218101.out 3) | ((with_reducible refine gate_callee (f := 130) rfl ?_); refine goesL_ (some 15) rfl rfl Try.func130 (by kernel_rfl) rfl #[.agg #[.int .i64 a0_0, .int .i64 a0_1, .int .i64 a0_2, .slice A0_3 l0_3.length c0_3]] rfl (by (try simp only [List.map_toArray, List.map_cons, List.map_nil]); first | done | rfl | (simp only [List.length_drop, List.length_take]; rfl)) ?_; (with_reducible refine (impl_Board_far.calls k a0_0 a0_1 a0_2 _ _ l0_3 t218106 _ ?side1 ?side2 A5.out).mono ?_); (case side1 => repeat (first | exact (Kd.C_below HR0_3.out HB.out) | (with_reducible refine Kd.C_alloc ?_ _) | (with_reducible refine Kd.C_drewN ?_ _) | (with_reducible refine Kd.C_drew ?_))); (case side2 => exact HC0_3.out); rintro e w16 ⟨v218107, rfl, ho0, hb⟩; refine ⟨_, rfl, ?_⟩; have n0_ := Aside0.mk (Kd.R_elder' (by (with_reducible repeat (first | apply Kd.R_alloc | apply Kd.R_drewN | apply Kd.R_drew)); exact HO218104.out) (Kd.R_base ho0) hb); have n1_ := Aside0.mk (Kd.R_lower (Kd.R_new' ho0 (Kd.R_lt (by (with_reducible repeat (first | apply Kd.R_alloc | apply Kd.R_drewN | apply Kd.R_drew)); exact HO218104.out))) (below_size (by repeat (first | (with_reducible first | exact HB.out | apply below_alloc | apply pw_below_drewN | apply below_drew1 | refine below_set ?_ GE218101.out) | exact HB.out)))); have n2_ := Aside0.mk (blk_below (g := gb218101) (o := .cells #[.int .i64 a0_0, .int .i64 a0_1, .int .i64 a0_2, .slice A0_3 l0_3.length c0_3] 32 (0, 0)) (by (with_reducible repeat (first | refine blk_drewN ?_ _ | refine blk_drew ?_ | refine blk_alloc ?_ _)); exact BK218101.out) hb); have n3_ := Aside0.mk (below_step (by repeat (first | (with_reducible first | exact HB.out | apply below_alloc | apply pw_below_drewN | apply below_drew1 | refine below_set ?_ GE218101.out) | exact HB.out)) hb); clear HO218104; clear BK218101; clear HB; have HO218104 := n0_; have HO218108 := n1_; have BK218101 := n2_; have HB := n3_; clear n0_ n1_ n2_ n3_; (try clear hb); (try clear hb2); (try clear hk); (try clear hi); (try clear ho0)) | ((with_reducible refine gate_dst (N := 16) rfl ?_); refine Kd.R_lit (Kd.int .i64) _ 3 ?hg (N := 16) ?hd (xs := ([] : List Int)) (inner := []) (ok := fun _ => True) (okp := fun _ => True) ?hr ?hp (fun _ hk => hk) trivial (Below.refl _ _) (Nat.le_refl _) (by simp) ?_; (case hd => rfl); (case hg => rfl); (case hr => first | (go_simp; done) | (go_simp; rfl)); (case hp => exact (Reps.none _ _)); intro v218110 w17 ho18 hb hg_ hnew_; clear hg_ hnew_; (first | rw [← Ny218109.out] at ho18 | (simp only [Int.reduceToNat] at ho18; rw [← Ny218109.out] at ho18)); have n0_ := Aside0.mk (Kd.R_elder' (by (with_reducible repeat (first | apply Kd.R_alloc | apply Kd.R_drewN | apply Kd.R_drew)); exact HO218104.out) (Kd.R_base ho18) hb); have n1_ := Aside0.mk (Kd.R_elder' (by (with_reducible repeat (first | apply Kd.R_alloc | apply Kd.R_drewN | apply Kd.R_drew)); exact HO218108.out) (Kd.R_base ho18) hb); have n2_ := Aside0.mk (Kd.R_lower (Kd.R_new' (Kd.R_new' ho18 (Kd.R_lt (by (with_reducible repeat (first | apply Kd.R_alloc | apply Kd.R_drewN | apply Kd.R_drew)); exact HO218104.out))) (Kd.R_lt (by (with_reducible repeat (first | apply Kd.R_alloc | apply Kd.R_drewN | apply Kd.R_drew)); exact HO218108.out))) (below_size (by repeat (first | (with_reducible first | exact HB.out | apply below_alloc | apply pw_below_drewN | apply below_drew1 | refine below_set ?_ GE218101.out) | exact HB.out)))); have n3_ := Aside0.mk (blk_below (g := gb218101) (o := .cells #[.int .i64 a0_0, .int .i64 a0_1, .int .i64 a0_2, .slice A0_3 l0_3.length c0_3] 32 (0, 0)) (by (with_reducible repeat (first | refine blk_drewN ?_ _ | refine blk_drew ?_ | refine blk_alloc ?_ _)); exact BK218101.out) hb); have n4_ := Aside0.mk (below_step (by repeat (first | (with_reducible first | exact HB.out | apply below_alloc | apply pw_below_drewN | apply below_drew1 | refine below_set ?_ GE218101.out) | exact HB.out)) hb); clear HO218104; clear HO218108; clear BK218101; clear HB; have HO218104 := n0_; have HO218108 := n1_; have HO218111 := n2_; have BK218101 := n3_; have HB := n4_; clear n0_ n1_ n2_ n3_ n4_; clear hb ho18; obtain ⟨Ao19, co19, eo19⟩ := Kd.R_slice HO218108.out; subst eo19; have p218112 : 0 ≤ (a1 : Int) := of_decide_eq_true (by first | (with_reducible assumption) | assumption); have q218112 : a1 < (t218106.length : Int) := of_decide_eq_true (by first | (with_reducible assumption) | assumption); obtain ⟨ad218112, e218112, hx218112_0⟩ := Kd.at_int (Kd.R_reads' HO218108.out).2.2 a1 p218112 q218112; cases e218112; replace p218112 := eq_true p218112; replace q218112 := eq_true q218112))
     go_ret2
     exact ⟨_, by first | rfl | (simp [errW_none, errW_some] <;> rfl) | (simp [*, errW_none, errW_some] <;> rfl), by first | exact Kd.R_nil _ _ _ _ _ | exact Kd.N_nil _ _ _ _ _ | exact Kd.V_nil _ _ _ _ _ | exact Kd.Q_nil _ _ _ _ _ | exact Kd.S_nil _ _ _ _ _, by repeat (first | (with_reducible first | exact HB.out | apply below_alloc | apply pw_below_drewN | apply below_drew1 | refine below_set ?_ GE218101.out) | exact HB.out)⟩
    ·rw [if_neg c8] at H
     have c8b0 : decide ((rd t218106 a1) < 0) = false := decide_eq_false c8
     clear c8
     have H' := Aside0.mk H
     clear H
     go_enter Try.func109, Try.ntmps109
     go_wp2_with (first | ((with_reducible refine gate_dst (N := 2) rfl ?_); refine box_event ?hg (N := 2) ?hd (cs := #[.int .i64 a0_0, .int .i64 a0_1, .int .i64 a0_2, .slice A0_3 l0_3.length c0_3]) (t := 32) ?hr ?_; (case hd => rfl); (case hg => rfl); (case hr => first | (go_simp; done) | (go_simp; rfl)); intro gb218101 hg w20 hbox hb; have n0_ := Aside0.mk (below_step (by repeat (first | (with_reducible first | exact HB.out | apply below_alloc | apply pw_below_drewN | apply below_drew1) | exact HB.out)) hb); have n1_ := Aside0.mk (hbox); have n2_ := Aside0.mk ((by rw [hg]; exact (below_size (by repeat (first | (with_reducible first | exact HB.out | apply below_alloc | apply pw_below_drewN | apply below_drew1) | exact HB.out))) : w.heap.size ≤ gb218101)); have n3_ := Aside0.mk ((by rw [hg]; exact (below_size (by repeat (first | (with_reducible first | exact HB.out | apply below_alloc | apply pw_below_drewN | apply below_drew1) | exact HB.out))) : w.heap.size ≤ gb218101)); clear HB; have HB := n0_; have BK218101 := n1_; have GW218101 := n2_; have GE218101 := n3_; clear n0_ n1_ n2_ n3_; clear hb hbox hg; have hcz21_0 : w20.cell? ⟨gb218101, 0, none⟩ = some (.int .i64 a0_0) := (blk_cell BK218101.out 0).trans rfl; have hcz21_1 : w20.cell? ⟨gb218101, 1, none⟩ = some (.int .i64 a0_1) := (blk_cell BK218101.out 1).trans rfl; have hcz21_2 : w20.cell? ⟨gb218101, 2, none⟩ = some (.int .i64 a0_2) := (blk_cell BK218101.out 2).trans rfl; have hcz21_3 : w20.cell? ⟨gb218101, 3, none⟩ = some (.slice A0_3 l0_3.length c0_3) := (blk_cell BK218101.out 3).trans rfl; have hfz21_0 := blk_frozen BK218101.out 0; have hfz21_1 := blk_frozen BK218101.out 1; have hfz21_2 := blk_frozen BK218101.out 2; have hfz21_3 := blk_frozen BK218101.out 3) | ((with_reducible refine gate_dst (N := 11) rfl ?_); refine Kd.R_lit (Kd.int .i64) _ 3 ?hg (N := 11) ?hd (xs := ([a1] : List Int)) (inner := [.int .i64 a1]) (ok := fun _ => True) (okp := fun _ => True) ?hr ?hp (fun _ hk => hk) trivial (Below.refl _ _) (Nat.le_refl _) (by simp) ?_; (case hd => rfl); (case hg => rfl); (case hr => first | (go_simp; done) | (go_simp; rfl)); (case hp => exact (Reps.one (show Kd.M (Kd.int .i64) _ _ _ a1 [.int .i64 a1] from rfl) (Reps.none _ _))); intro v218103 w22 ho23 hb hg_ hnew_; clear hg_ hnew_; (first | rw [← Ny218102.out] at ho23 | (simp only [Int.reduceToNat] at ho23; rw [← Ny218102.out] at ho23)); have n0_ := Aside0.mk (Kd.R_lower ho23 (below_size (by repeat (first | (with_reducible first | exact HB.out | apply below_alloc | apply pw_below_drewN | apply below_drew1 | refine below_set ?_ GE218101.out) | exact HB.out)))); have n1_ := Aside0.mk (blk_below (g := gb218101) (o := .cells #[.int .i64 a0_0, .int .i64 a0_1, .int .i64 a0_2, .slice A0_3 l0_3.length c0_3] 32 (0, 0)) (by (with_reducible repeat (first | refine blk_drewN ?_ _ | refine blk_drew ?_ | refine blk_alloc ?_ _)); exact BK218101.out) hb); have n2_ := Aside0.mk (below_step (by repeat (first | (with_reducible first | exact HB.out | apply below_alloc | apply pw_below_drewN | apply below_drew1 | refine below_set ?_ GE218101.out) | exact HB.out)) hb); clear BK218101; clear HB; have HO218104 := n0_; have BK218101 := n1_; have HB := n2_; clear n0_ n1_ n2_; clear hb ho23; obtain ⟨Ao24, co24, eo24⟩ := Kd.R_slice HO218104.out; subst eo24) | ((with_reducible refine gate_callee (f := 134) rfl ?_); refine goesL_ (some 12) rfl rfl Try.func134 (by kernel_rfl) rfl #[.agg #[.int .i64 a0_0, .int .i64 a0_1, .int .i64 a0_2, .slice A0_3 l0_3.length c0_3], .slice Ao24 y218102.length co24] rfl (by (try simp only [List.map_toArray, List.map_cons, List.map_nil]); first | done | rfl | (simp only [List.length_drop, List.length_take]; rfl)) ?_; (with_reducible refine (impl_areSquares.calls k a0_0 a0_1 a0_2 _ _ l0_3 _ _ y218102 true _ ?side1 ?side2 ?side3 ?side4 A3.out).mono ?_); (case side1 => repeat (first | exact (Kd.C_below HR0_3.out HB.out) | (with_reducible refine Kd.C_alloc ?_ _) | (with_reducible refine Kd.C_drewN ?_ _) | (with_reducible refine Kd.C_drew ?_))); (case side2 => exact HC0_3.out); (case side3 => repeat (first | exact (Kd.R_reads' HO218104.out).2.2 | (with_reducible refine Kd.C_alloc ?_ _) | (with_reducible refine Kd.C_drewN ?_ _) | (with_reducible refine Kd.C_drew ?_))); (case side4 => exact (Kd.R_reads' HO218104.out).2.1); rintro e w25 ⟨rfl, hb⟩; refine ⟨_, rfl, ?_⟩; have n0_ := Aside0.mk (Kd.R_below (by (with_reducible repeat (first | apply Kd.R_alloc | apply Kd.R_drewN | apply Kd.R_drew)); exact HO218104.out) hb); have n1_ := Aside0.mk (blk_below (g := gb218101) (o := .cells #[.int .i64 a0_0, .int .i64 a0_1, .int .i64 a0_2, .slice A0_3 l0_3.length c0_3] 32 (0, 0)) (by (with_reducible repeat (first | refine blk_drewN ?_ _ | refine blk_drew ?_ | refine blk_alloc ?_ _)); exact BK218101.out) hb); have n2_ := Aside0.mk (below_step (by repeat (first | (with_reducible first | exact HB.out | apply below_alloc | apply pw_below_drewN | apply below_drew1 | refine below_set ?_ GE218101.out) | exact HB.out)) hb); clear HO218104; clear BK218101; clear HB; have HO218104 := n0_; have BK218101 := n1_; have HB := n2_; clear n0_ n1_ n2_; (try clear hb); (try clear hb2); (try clear hk); (try clear hi); have hcz26_0 : w25.cell? ⟨gb218101, 0, none⟩ = some (.int .i64 a0_0) := (blk_cell BK218101.out 0).trans rfl; have hcz26_1 : w25.cell? ⟨gb218101, 1, none⟩ = some (.int .i64 a0_1) := (blk_cell BK218101.out 1).trans rfl; have hcz26_2 : w25.cell? ⟨gb218101, 2, none⟩ = some (.int .i64 a0_2) := (blk_cell BK218101.out 2).trans rfl; have hcz26_3 : w25.cell? ⟨gb218101, 3, none⟩ = some (.slice A0_3 l0_3.length c0_3) := (blk_cell BK218101.out 3).trans rfl; have hfz26_0 := blk_frozen BK218101.out 0; have hfz26_1 := blk_frozen BK218101.out 1; have hfz26_2 := blk_frozen BK218101.out 2; have hfz26_3 := blk_frozen BK218101.out 3) | ((with_reducible refine gate_callee (f := 130) rfl ?_); refine goesL_ (some 15) rfl rfl Try.func130 (by kernel_rfl) rfl #[.agg #[.int .i64 a0_0, .int .i64 a0_1, .int .i64 a0_2, .slice A0_3 l0_3.length c0_3]] rfl (by (try simp only [List.map_toArray, List.map_cons, List.map_nil]); first | done | rfl | (simp only [List.length_drop, List.length_take]; rfl)) ?_; (with_reducible refine (impl_Board_far.calls k a0_0 a0_1 a0_2 _ _ l0_3 t218106 _ ?side1 ?side2 A5.out).mono ?_); (case side1 => repeat (first | exact (Kd.C_below HR0_3.out HB.out) | (with_reducible refine Kd.C_alloc ?_ _) | (with_reducible refine Kd.C_drewN ?_ _) | (with_reducible refine Kd.C_drew ?_))); (case side2 => exact HC0_3.out); rintro e w27 ⟨v218107, rfl, ho0, hb⟩; refine ⟨_, rfl, ?_⟩; have n0_ := Aside0.mk (Kd.R_elder' (by (with_reducible repeat (first | apply Kd.R_alloc | apply Kd.R_drewN | apply Kd.R_drew)); exact HO218104.out) (Kd.R_base ho0) hb); have n1_ := Aside0.mk (Kd.R_lower (Kd.R_new' ho0 (Kd.R_lt (by (with_reducible repeat (first | apply Kd.R_alloc | apply Kd.R_drewN | apply Kd.R_drew)); exact HO218104.out))) (below_size (by repeat (first | (with_reducible first | exact HB.out | apply below_alloc | apply pw_below_drewN | apply below_drew1 | refine below_set ?_ GE218101.out) | exact HB.out)))); have n2_ := Aside0.mk (blk_below (g := gb218101) (o := .cells #[.int .i64 a0_0, .int .i64 a0_1, .int .i64 a0_2, .slice A0_3 l0_3.length c0_3] 32 (0, 0)) (by (with_reducible repeat (first | refine blk_drewN ?_ _ | refine blk_drew ?_ | refine blk_alloc ?_ _)); exact BK218101.out) hb); have n3_ := Aside0.mk (below_step (by repeat (first | (with_reducible first | exact HB.out | apply below_alloc | apply pw_below_drewN | apply below_drew1 | refine below_set ?_ GE218101.out) | exact HB.out)) hb); clear HO218104; clear BK218101; clear HB; have HO218104 := n0_; have HO218108 := n1_; have BK218101 := n2_; have HB := n3_; clear n0_ n1_ n2_ n3_; (try clear hb); (try clear hb2); (try clear hk); (try clear hi); (try clear ho0)) | ((with_reducible refine gate_dst (N := 16) rfl ?_); refine Kd.R_lit (Kd.int .i64) _ 3 ?hg (N := 16) ?hd (xs := ([] : List Int)) (inner := []) (ok := fun _ => True) (okp := fun _ => True) ?hr ?hp (fun _ hk => hk) trivial (Below.refl _ _) (Nat.le_refl _) (by simp) ?_; (case hd => rfl); (case hg => rfl); (case hr => first | (go_simp; done) | (go_simp; rfl)); (case hp => exact (Reps.none _ _)); intro v218110 w28 ho29 hb hg_ hnew_; clear hg_ hnew_; (first | rw [← Ny218109.out] at ho29 | (simp only [Int.reduceToNat] at ho29; rw [← Ny218109.out] at ho29)); have n0_ := Aside0.mk (Kd.R_elder' (by (with_reducible repeat (first | apply Kd.R_alloc | apply Kd.R_drewN | apply Kd.R_drew)); exact HO218104.out) (Kd.R_base ho29) hb); have n1_ := Aside0.mk (Kd.R_elder' (by (with_reducible repeat (first | apply Kd.R_alloc | apply Kd.R_drewN | apply Kd.R_drew)); exact HO218108.out) (Kd.R_base ho29) hb); have n2_ := Aside0.mk (Kd.R_lower (Kd.R_new' (Kd.R_new' ho29 (Kd.R_lt (by (with_reducible repeat (first | apply Kd.R_alloc | apply Kd.R_drewN | apply Kd.R_drew)); exact HO218104.out))) (Kd.R_lt (by (with_reducible repeat (first | apply Kd.R_alloc | apply Kd.R_drewN | apply Kd.R_drew)); exact HO218108.out))) (below_size (by repeat (first | (with_reducible first | exact HB.out | apply below_alloc | apply pw_below_drewN | apply below_drew1 | refine below_set ?_ GE218101.out) | exact HB.out)))); have n3_ := Aside0.mk (blk_below (g := gb218101) (o := .cells #[.int .i64 a0_0, .int .i64 a0_1, .int .i64 a0_2, .slice A0_3 l0_3.length c0_3] 32 (0, 0)) (by (with_reducible repeat (first | refine blk_drewN ?_ _ | refine blk_drew ?_ | refine blk_alloc ?_ _)); exact BK218101.out) hb); have n4_ := Aside0.mk (below_step (by repeat (first | (with_reducible first | exact HB.out | apply below_alloc | apply pw_below_drewN | apply below_drew1 | refine below_set ?_ GE218101.out) | exact HB.out)) hb); clear HO218104; clear HO218108; clear BK218101; clear HB; have HO218104 := n0_; have HO218108 := n1_; have HO218111 := n2_; have BK218101 := n3_; have HB := n4_; clear n0_ n1_ n2_ n3_ n4_; clear hb ho29; obtain ⟨Ao30, co30, eo30⟩ := Kd.R_slice HO218108.out; subst eo30; have p218112 : 0 ≤ (a1 : Int) := of_decide_eq_true (by first | (with_reducible assumption) | assumption); have q218112 : a1 < (t218106.length : Int) := of_decide_eq_true (by first | (with_reducible assumption) | assumption); obtain ⟨ad218112, e218112, hx218112_0⟩ := Kd.at_int (Kd.R_reads' HO218108.out).2.2 a1 p218112 q218112; cases e218112; replace p218112 := eq_true p218112; replace q218112 := eq_true q218112))
     go_loopg [1, 7] k (fun kq v1 v7 w' => ∃ (x1_1 : Int) (x7_1 : List Int), v1 = .int .i64 x1_1 ∧ Aside0 (impl_FirstThrows.l0 kq x1_1 t218106 x7_1 a0_0 a0_1 a0_2 l0_3 = some (r1, r2)) ∧ Aside0 (kq ≤ k) ∧ Aside0 (Kd.R (Kd.int .i64) 3 w' w.heap.size (fun k_ => some k_ ≠ (v7 : Value).ownBlock) (.slice (some ad218112) t218106.length co30) t218106) ∧ Aside0 (Kd.R (Kd.int .i64) 3 w' w.heap.size (fun k_ => some k_ ≠ ((.slice (some ad218112) t218106.length co30) : Value).ownBlock) v7 x7_1) ∧ Aside0 (w'.heap[gb218101]? = some (.cells #[.int .i64 a0_0, .int .i64 a0_1, .int .i64 a0_2, (.slice A0_3 l0_3.length c0_3)] 32 (0, 0))) ∧ Aside0 (Below w.heap.size w w'))
     case atStart => exact ⟨(a1), (y218109), (by first | rfl | (simp; done) | (simp [*]; done)), H', ⟨Nat.le_refl _⟩, ⟨by (with_reducible repeat (first | apply Kd.R_alloc | apply Kd.R_drewN | apply Kd.R_drew)); exact Kd.R_mono HO218108.out (fun _ hk => hk.2)⟩, ⟨by (with_reducible repeat (first | apply Kd.R_alloc | apply Kd.R_drewN | apply Kd.R_drew)); exact Kd.R_mono HO218111.out (fun _ hk => hk.2)⟩, ⟨by (with_reducible repeat (first | refine blk_drewN ?_ _ | refine blk_drew ?_ | refine blk_alloc ?_ _)); exact BK218101.out⟩, ⟨by repeat (first | (with_reducible first | exact HB.out | apply below_alloc | apply pw_below_drewN | apply below_drew1 | refine below_set ?_ GE218101.out) | exact HB.out)⟩⟩
     case round =>
      clear H'
      try clear c1
      try clear p2
      try clear q2
      try clear hx2
      try clear c4
      try clear c6
      try clear c6b0
      try clear c7
      try clear c7b0
      try clear c8
      try clear c8b0
      try clear c10
      try clear c13
      try clear p21
      try clear q21
      try clear hx21
      try clear hcz10_0
      try clear hcz10_1
      try clear hcz10_2
      try clear hcz10_3
      try clear hcz15_0
      try clear hcz15_1
      try clear hcz15_2
      try clear hcz15_3
      try clear hcz21_0
      try clear hcz21_1
      try clear hcz21_2
      try clear hcz21_3
      try clear hcz26_0
      try clear hcz26_1
      try clear hcz26_2
      try clear hcz26_3
      try clear hfz10_0
      try clear hfz10_1
      try clear hfz10_2
      try clear hfz10_3
      try clear hfz15_0
      try clear hfz15_1
      try clear hfz15_2
      try clear hfz15_3
      try clear hfz21_0
      try clear hfz21_1
      try clear hfz21_2
      try clear hfz21_3
      try clear hfz26_0
      try clear hfz26_1
      try clear hfz26_2
      try clear hfz26_3
      try clear hx218112_0
      try clear p218112
      try clear q218112
      obtain ⟨x1_1, x7_1, rfl, HA, HK1, HO_6, HO_7, BK218101, HB⟩ := hrel
      cases gk with
      | zero => exact absurd HA.out (by simp [impl_FirstThrows.l0])
      | succ k1 =>
       have H := HA.out
       clear HA
       simp only [impl_FirstThrows.l0] at H
       by_cases c31 : x1_1 = a0_0
       ·rw [if_pos c31] at H
        have c31b0 : (x1_1 == a0_0) = true := beq_iff_eq.mpr c31
        have c31b1 : (x1_1 != a0_0) = false := bne_eq_false_iff_eq.mpr c31
        clear c31
        simp only [Option.some.injEq, Prod.mk.injEq] at H
        obtain ⟨rfl, rfl⟩ := H
        have hcz32_0 : wr.cell? ⟨gb218101, 0, none⟩ = some (.int .i64 a0_0) := (blk_cell BK218101.out 0).trans rfl
        have hcz32_1 : wr.cell? ⟨gb218101, 1, none⟩ = some (.int .i64 a0_1) := (blk_cell BK218101.out 1).trans rfl
        have hcz32_2 : wr.cell? ⟨gb218101, 2, none⟩ = some (.int .i64 a0_2) := (blk_cell BK218101.out 2).trans rfl
        have hcz32_3 : wr.cell? ⟨gb218101, 3, none⟩ = some (.slice A0_3 l0_3.length c0_3) := (blk_cell BK218101.out 3).trans rfl
        have hfz32_0 := blk_frozen BK218101.out 0
        have hfz32_1 := blk_frozen BK218101.out 1
        have hfz32_2 := blk_frozen BK218101.out 2
        have hfz32_3 := blk_frozen BK218101.out 3
        go_wp2
        go_ret2
        exact ⟨_, by first | rfl | (simp [errW_none, errW_some] <;> rfl) | (simp [*, errW_none, errW_some] <;> rfl), by (with_reducible repeat (first | apply Kd.R_alloc | apply Kd.R_drewN | apply Kd.R_drew)); exact Kd.R_mono HO_7.out (fun _ hk => trivial), by repeat (first | (with_reducible first | exact HB.out | apply below_alloc | apply pw_below_drewN | apply below_drew1 | refine below_set ?_ GE218101.out) | exact HB.out)⟩
       ·rw [if_neg c31] at H
        have c31b0 : (x1_1 == a0_0) = false := beq_eq_false_iff_ne.mpr c31
        have c31b1 : (x1_1 != a0_0) = true := bne_iff_ne.mpr c31
        have H' := Aside0.mk H
        clear H
        have hcz33_0 : wr.cell? ⟨gb218101, 0, none⟩ = some (.int .i64 a0_0) := (blk_cell BK218101.out 0).trans rfl
        have hcz33_1 : wr.cell? ⟨gb218101, 1, none⟩ = some (.int .i64 a0_1) := (blk_cell BK218101.out 1).trans rfl
        have hcz33_2 : wr.cell? ⟨gb218101, 2, none⟩ = some (.int .i64 a0_2) := (blk_cell BK218101.out 2).trans rfl
        have hcz33_3 : wr.cell? ⟨gb218101, 3, none⟩ = some (.slice A0_3 l0_3.length c0_3) := (blk_cell BK218101.out 3).trans rfl
        have hfz33_0 := blk_frozen BK218101.out 0
        have hfz33_1 := blk_frozen BK218101.out 1
        have hfz33_2 := blk_frozen BK218101.out 2
        have hfz33_3 := blk_frozen BK218101.out 3
        go_wp2
        go_loopg [8] k1 (fun kq v8 w' => ∃ (x8_2 : Int), v8 = .int .i64 x8_2 ∧ Aside0 (impl_FirstThrows.l1 kq x1_1 t218106 x7_1 x8_2 a0_0 a0_1 a0_2 l0_3 = some (r1, r2)) ∧ Aside0 (kq ≤ k1) ∧ Aside0 (Kd.R (Kd.int .i64) 3 w' w.heap.size (fun k_ => some k_ ≠ (u7 : Value).ownBlock) (.slice (some ad218112) t218106.length co30) t218106) ∧ Aside0 (Kd.R (Kd.int .i64) 3 w' w.heap.size (fun k_ => some k_ ≠ ((.slice (some ad218112) t218106.length co30) : Value).ownBlock) u7 x7_1) ∧ Aside0 (w'.heap[gb218101]? = some (.cells #[.int .i64 a0_0, .int .i64 a0_1, .int .i64 a0_2, (.slice A0_3 l0_3.length c0_3)] 32 (0, 0))) ∧ Aside0 (Below w.heap.size w w'))
        case atStart => exact ⟨(1), (by first | rfl | (simp; done) | (simp [*]; done)), H', ⟨Nat.le_refl _⟩, ⟨by (with_reducible repeat (first | apply Kd.R_alloc | apply Kd.R_drewN | apply Kd.R_drew)); exact HO_6.out⟩, ⟨by (with_reducible repeat (first | apply Kd.R_alloc | apply Kd.R_drewN | apply Kd.R_drew)); exact HO_7.out⟩, ⟨by (with_reducible repeat (first | refine blk_drewN ?_ _ | refine blk_drew ?_ | refine blk_alloc ?_ _)); exact BK218101.out⟩, ⟨by repeat (first | (with_reducible first | exact HB.out | apply below_alloc | apply pw_below_drewN | apply below_drew1 | refine below_set ?_ GE218101.out) | exact HB.out)⟩⟩
        case round =>
         clear H'
         try clear c1
         try clear p2
         try clear q2
         try clear hx2
         try clear c3
         try clear c4
         try clear c6
         try clear c6b0
         try clear c7
         try clear c7b0
         try clear c8
         try clear c8b0
         try clear c10
         try clear c13
         try clear p21
         try clear q21
         try clear hx21
         try clear c31
         try clear c31b0
         try clear c31b1
         try clear hcz10_0
         try clear hcz10_1
         try clear hcz10_2
         try clear hcz10_3
         try clear hcz15_0
         try clear hcz15_1
         try clear hcz15_2
         try clear hcz15_3
         try clear hcz21_0
         try clear hcz21_1
         try clear hcz21_2
         try clear hcz21_3
         try clear hcz26_0
         try clear hcz26_1
         try clear hcz26_2
         try clear hcz26_3
         try clear hcz32_0
         try clear hcz32_1
         try clear hcz32_2
         try clear hcz32_3
         try clear hcz33_0
         try clear hcz33_1
         try clear hcz33_2
         try clear hcz33_3
         try clear hfz10_0
         try clear hfz10_1
         try clear hfz10_2
         try clear hfz10_3
         try clear hfz15_0
         try clear hfz15_1
         try clear hfz15_2
         try clear hfz15_3
         try clear hfz21_0
         try clear hfz21_1
         try clear hfz21_2
         try clear hfz21_3
         try clear hfz26_0
         try clear hfz26_1
         try clear hfz26_2
         try clear hfz26_3
         try clear hfz32_0
         try clear hfz32_1
         try clear hfz32_2
         try clear hfz32_3
         try clear hfz33_0
         try clear hfz33_1
         try clear hfz33_2
         try clear hfz33_3
         try clear hx218112_0
         try clear p2
         try clear p21
         try clear p218112
         try clear q2
         try clear q21
         try clear q218112
         obtain ⟨x8_2, rfl, HA, HK2, HO_6, HO_7, BK218101, HB⟩ := hrel
         cases gk with
         | zero => exact absurd HA.out (by simp [impl_FirstThrows.l1])
         | succ k2 =>
          have H := HA.out
          clear HA
          simp only [impl_FirstThrows.l1] at H
          replace H := Option.bind_eq_some_iff.mp H
          obtain ⟨t218113, A340, H⟩ := H
          replace H : (if 0 ≤ t218113 then (if t218113 < (t218106.length : Int) then (if 0 ≤ x1_1 then (if x1_1 < (t218106.length : Int) then (if (rd t218106 t218113) = (wrap64 ((rd t218106 x1_1) - 1)) then (if x7_1.length < 17592186044416 then ((impl_Board_throw.f k2 a0_0 a0_1 a0_2 l0_3 x1_1 x8_2).bind fun t218119 => (impl_FirstThrows.l0 k2 t218119 t218106 (x7_1 ++ [x8_2]) a0_0 a0_1 a0_2 l0_3)) else (none)) else (impl_FirstThrows.l1 k2 x1_1 t218106 x7_1 (wrap64 (x8_2 + 1)) a0_0 a0_1 a0_2 l0_3)) else (none)) else (none)) else (none)) else (none)) = some (r1, r2) := H
          have A34 := Aside0.mk A340
          clear A340
          by_cases c35 : 0 ≤ t218113
          ·rw [if_pos c35] at H
           have c35b0 : decide (0 ≤ t218113) = true := decide_eq_true c35
           clear c35
           by_cases c36 : t218113 < (t218106.length : Int)
           ·rw [if_pos c36] at H
            have c36b0 : decide (t218113 < (t218106.length : Int)) = true := decide_eq_true c36
            clear c36
            by_cases c37 : 0 ≤ x1_1
            ·rw [if_pos c37] at H
             have c37b0 : decide (0 ≤ x1_1) = true := decide_eq_true c37
             clear c37
             by_cases c38 : x1_1 < (t218106.length : Int)
             ·rw [if_pos c38] at H
              have c38b0 : decide (x1_1 < (t218106.length : Int)) = true := decide_eq_true c38
              clear c38
              by_cases c39 : (rd t218106 t218113) = (wrap64 ((rd t218106 x1_1) - 1))
              ·rw [if_pos c39] at H
               have c39b0 : ((rd t218106 t218113) == (wrap64 ((rd t218106 x1_1) - 1))) = true := beq_iff_eq.mpr c39
               have c39b1 : ((rd t218106 t218113) != (wrap64 ((rd t218106 x1_1) - 1))) = false := bne_eq_false_iff_eq.mpr c39
               clear c39
               by_cases c40 : x7_1.length < 17592186044416
               ·rw [if_pos c40] at H
                have LMc40 := Aside0.mk c40
                clear c40
                obtain ⟨y218116, hy218116⟩ : ∃ y_ : List Int, y_ = (x7_1 ++ [x8_2]) := ⟨_, rfl⟩
                replace H : ((impl_Board_throw.f k2 a0_0 a0_1 a0_2 l0_3 x1_1 x8_2).bind fun t218119 => (impl_FirstThrows.l0 k2 t218119 t218106 y218116 a0_0 a0_1 a0_2 l0_3)) = some (r1, r2) := by first | (rw [hy218116]; with_reducible exact H) | (have H2_ := (Option.bind_some _ _).symm.trans H; rw [hy218116]; with_reducible exact H2_) | (have H2_ := (Option.bind_some _ _).symm.trans H; with_reducible exact H2_) | with_reducible exact H | (rw [hy218116]; exact H) | exact H
                have Ny218116 := Aside0.mk hy218116
                clear hy218116
                replace H := Option.bind_eq_some_iff.mp H
                obtain ⟨t218119, A410, H⟩ := H
                replace H : (impl_FirstThrows.l0 k2 t218119 t218106 y218116 a0_0 a0_1 a0_2 l0_3) = some (r1, r2) := H
                have A41 := Aside0.mk A410
                clear A410
                have H' := Aside0.mk H
                clear H
                try go_wp2
                have n0_ := Aside0.mk (Kd.R_drew HO_6.out)
                have n1_ := Aside0.mk (Kd.R_drew HO_7.out)
                have n2_ := Aside0.mk (blk_drew BK218101.out)
                have n3_ := Aside0.mk (below_drew1 HB.out)
                clear HO_6
                clear HO_7
                clear BK218101
                clear HB
                have HO_6 := n0_
                have HO_7 := n1_
                have BK218101 := n2_
                have HB := n3_
                clear n0_ n1_ n2_ n3_
                have p218115 : 0 ≤ (x1_1 : Int) := of_decide_eq_true (by first | (with_reducible assumption) | assumption)
                have q218115 : x1_1 < (t218106.length : Int) := of_decide_eq_true (by first | (with_reducible assumption) | assumption)
                obtain ⟨ad218115, e218115, hx218115_0⟩ := Kd.at_int (Kd.R_reads' HO_6.out).2.2 x1_1 p218115 q218115
                obtain rfl : ad218112 = ad218115 := (by injection e218115)
                replace p218115 := eq_true p218115
                replace q218115 := eq_true q218115
                have p218114 : 0 ≤ (t218113 : Int) := of_decide_eq_true (by first | (with_reducible assumption) | assumption)
                have q218114 : t218113 < (t218106.length : Int) := of_decide_eq_true (by first | (with_reducible assumption) | assumption)
                obtain ⟨ad218114, e218114, hx218114_0⟩ := Kd.at_int (Kd.R_reads' HO_6.out).2.2 t218113 p218114 q218114
                obtain rfl : ad218112 = ad218114 := (by injection e218114)
                replace p218114 := eq_true p218114
                replace q218114 := eq_true q218114
                refine start_ (n := 13) (S := fun w' => w'.cell? ⟨gb218101, 0, none⟩ = some (.int .i64 a0_0) ∧ w'.cell? ⟨gb218101, 1, none⟩ = some (.int .i64 a0_1) ∧ w'.cell? ⟨gb218101, 2, none⟩ = some (.int .i64 a0_2) ∧ w'.cell? ⟨gb218101, 3, none⟩ = some (.slice A0_3 l0_3.length c0_3) ∧ w'.cell? (ad218112.add (x1_1).toNat) = some (.int .i64 (rd t218106 x1_1)) ∧ w'.cell? (ad218112.add (t218113).toNat) = some (.int .i64 (rd t218106 t218113))) (ds := []) bImplFirstThrows_0 (by kernel_rfl) rfl rfl ⟨(blk_cell BK218101.out 0).trans rfl, (blk_cell BK218101.out 1).trans rfl, (blk_cell BK218101.out 2).trans rfl, (blk_cell BK218101.out 3).trans rfl, hx218115_0, hx218114_0⟩ (fun hHeld => ?_); refine with_tabW impl_FirstThrows.tab8 impl_FirstThrows.bits8 (fun HT_ HW_ => ?_)
                generalize wr.drew = w42 at HO_6 HO_7 BK218101 HB hx218114_0 hx218115_0 hHeld ⊢
                refine pure_ (i := 0) (N := some 26) (v := ?_) (a' := ?_) bImplFirstThrows_1 rfl rfl (any_of HT_.out (by kernel_rfl)) (fun _ _ _ h => h) (Or.inl ⟨by rfl, ?_⟩) ?_ ?_
                rotate_left
                ·intro w'
                 go_simp
                 with_reducible rfl
                rotate_left
                ·simp only [Act.put, List.setIfInBounds_toArray, List.set_cons_zero, List.set_cons_succ, i64_w, i32_w]
                 rfl
                refine pure_ (i := 2) (N := some 28) (v := ?_) (a' := ?_) bImplFirstThrows_2 rfl rfl (any_of HT_.out (by kernel_rfl)) (fun _ _ _ h => h) (Or.inl ⟨by rfl, ?_⟩) ?_ ?_
                rotate_left
                ·intro w'
                 go_simp
                 with_reducible rfl
                rotate_left
                ·simp only [Act.put, List.setIfInBounds_toArray, List.set_cons_zero, List.set_cons_succ, i64_w, i32_w]
                 rfl
                refine pure_ (i := 3) (N := some 29) (v := ?_) (a' := ?_) bImplFirstThrows_3 rfl rfl (any_of HT_.out (by kernel_rfl)) (fun _ _ _ h => h) (Or.inl ⟨by rfl, ?_⟩) ?_ ?_
                rotate_left
                ·intro w'
                 go_simp
                 with_reducible rfl
                rotate_left
                ·simp only [Act.put, List.setIfInBounds_toArray, List.set_cons_zero, List.set_cons_succ, i64_w, i32_w]
                 rfl
                refine pure_ (i := 7) (N := some 33) (v := ?_) (a' := ?_) bImplFirstThrows_4 rfl rfl (any_of HT_.out (by kernel_rfl)) (fun _ _ _ h => h) (Or.inl ⟨by rfl, ?_⟩) ?_ ?_
                rotate_left
                ·intro w'
                 go_simp
                 with_reducible rfl
                rotate_left
                ·simp only [Act.put, List.setIfInBounds_toArray, List.set_cons_zero, List.set_cons_succ, i64_w, i32_w]
                 rfl
                refine pure_ (i := 8) (N := some 34) (v := ?_) (a' := ?_) bImplFirstThrows_5 rfl rfl (any_of HT_.out (by kernel_rfl)) (fun _ _ _ h => h) (Or.inl ⟨by rfl, ?_⟩) ?_ ?_
                rotate_left
                ·intro w'
                 go_simp
                 with_reducible rfl
                rotate_left
                ·simp only [Act.put, List.setIfInBounds_toArray, List.set_cons_zero, List.set_cons_succ, i64_w, i32_w]
                 rfl
                refine pure_ (i := 9) (N := some 35) (v := ?_) (a' := ?_) bImplFirstThrows_6 rfl rfl (any_of HT_.out (by kernel_rfl)) (fun _ _ _ h => h) (Or.inl ⟨by rfl, ?_⟩) ?_ ?_
                rotate_left
                ·intro w'
                 go_simp
                 with_reducible rfl
                rotate_left
                ·simp only [Act.put, List.setIfInBounds_toArray, List.set_cons_zero, List.set_cons_succ, i64_w, i32_w]
                 rfl
                refine take_ (i := 1) (N := some 27) (v := ?_) (a' := ?_) bImplFirstThrows_7 rfl rfl (take_ofW HT_.out HW_.out (by kernel_rfl)) (fun _ _ _ h => h) (Or.inl ⟨by rfl, ?_⟩) hHeld ?_ ?_
                rotate_left
                ·rintro w' ⟨s0, s1, s2, s3, s4, s5⟩
                 go_simp
                 with_reducible rfl
                rotate_left
                ·simp only [Act.put, List.setIfInBounds_toArray, List.set_cons_zero, List.set_cons_succ, i64_w, i32_w]
                 rfl
                refine take_ (i := 10) (N := some 36) (v := ?_) (a' := ?_) bImplFirstThrows_8 rfl rfl (take_ofW HT_.out HW_.out (by kernel_rfl)) (fun _ _ _ h => h) (Or.inl ⟨by rfl, ?_⟩) hHeld ?_ ?_
                rotate_left
                ·rintro w' ⟨s0, s1, s2, s3, s4, s5⟩
                 go_simp
                 with_reducible rfl
                rotate_left
                ·simp only [Act.put, List.setIfInBounds_toArray, List.set_cons_zero, List.set_cons_succ, i64_w, i32_w]
                 rfl
                refine pure_ (i := 11) (N := some 37) (v := ?_) (a' := ?_) bImplFirstThrows_9 rfl rfl (any_of HT_.out (by kernel_rfl)) (fun _ _ _ h => h) (Or.inl ⟨by rfl, ?_⟩) ?_ ?_
                rotate_left
                ·intro w'
                 go_simp
                 with_reducible rfl
                rotate_left
                ·simp only [Act.put, List.setIfInBounds_toArray, List.set_cons_zero, List.set_cons_succ, i64_w, i32_w]
                 rfl
                refine one_ (i := 4) (N := some 30) bImplFirstThrows_10 rfl rfl (one_of HT_.out (by kernel_rfl)) (by decide) (fun K hK => ?_)
                refine goes_ Try.func138 (by kernel_rfl) rfl #[.agg #[.int .i64 a0_0, .int .i64 a0_1, .int .i64 a0_2, .slice A0_3 l0_3.length c0_3], .int .i64 x1_1, .int .i64 x8_2] (by rfl) rfl rfl (by (try simp only [List.map_toArray, List.map_cons, List.map_nil]); first | done | rfl | (simp only [List.length_drop, List.length_take]; rfl)) ?_
                with_reducible refine (impl_Board_throw.calls k2 a0_0 a0_1 a0_2 _ _ l0_3 x1_1 x8_2 t218113 _ ?side1 ?side2 A34.out).mono ?_
                (case side1 => repeat (first | exact (Kd.C_below HR0_3.out HB.out) | (with_reducible refine Kd.C_alloc ?_ _) | (with_reducible refine Kd.C_drewN ?_ _) | (with_reducible refine Kd.C_drew ?_)))
                (case side2 => exact HC0_3.out)
                rintro e w43 ⟨rfl, hb⟩
                have HS4_ := (hb.cell (World.block_lt_of_cell? _ _ (hHeld.2.2.2.2.1))).trans (hHeld.2.2.2.2.1)
                have HS5_ := (hb.cell (World.block_lt_of_cell? _ _ (hHeld.2.2.2.2.2))).trans (hHeld.2.2.2.2.2)
                refine ⟨_, rfl, ?_⟩
                have n0_ := Aside0.mk (Kd.R_below (by (with_reducible repeat (first | apply Kd.R_alloc | apply Kd.R_drewN | apply Kd.R_drew)); exact HO_6.out) hb)
                have n1_ := Aside0.mk (Kd.R_below (by (with_reducible repeat (first | apply Kd.R_alloc | apply Kd.R_drewN | apply Kd.R_drew)); exact HO_7.out) hb)
                have n2_ := Aside0.mk (blk_below (g := gb218101) (o := .cells #[.int .i64 a0_0, .int .i64 a0_1, .int .i64 a0_2, .slice A0_3 l0_3.length c0_3] 32 (0, 0)) (by (with_reducible repeat (first | refine blk_drewN ?_ _ | refine blk_drew ?_ | refine blk_alloc ?_ _)); exact BK218101.out) hb)
                have n3_ := Aside0.mk (below_step (by repeat (first | (with_reducible first | exact HB.out | apply below_alloc | apply pw_below_drewN | apply below_drew1 | refine below_set ?_ GE218101.out) | exact HB.out)) hb)
                clear HO_6
                clear HO_7
                clear BK218101
                clear HB
                have HO_6 := n0_
                have HO_7 := n1_
                have BK218101 := n2_
                have HB := n3_
                clear n0_ n1_ n2_ n3_
                (try clear hb)
                (try clear hb2)
                (try clear hk)
                (try clear hi)
                refine hK.out _ _ ⟨(blk_cell BK218101.out 0).trans rfl, (blk_cell BK218101.out 1).trans rfl, (blk_cell BK218101.out 2).trans rfl, (blk_cell BK218101.out 3).trans rfl, HS4_, HS5_⟩ (fun hHeld => ?_)
                clear hK K
                refine norm_ (a' := ?_) ?_ ?_
                rotate_left
                ·show Act.put _ (some 30) _ = _
                 simp only [Act.put, List.setIfInBounds_toArray, List.set_cons_zero, List.set_cons_succ, i64_w, i32_w]
                 rfl
                refine pure_ (i := 5) (N := some 31) (v := ?_) (a' := ?_) bImplFirstThrows_11 rfl rfl (any_of HT_.out (by kernel_rfl)) (fun _ _ _ h => h) (Or.inl ⟨by rfl, ?_⟩) ?_ ?_
                rotate_left
                ·intro w'
                 go_simp
                 with_reducible rfl
                rotate_left
                ·simp only [Act.put, List.setIfInBounds_toArray, List.set_cons_zero, List.set_cons_succ, i64_w, i32_w]
                 rfl
                refine take_ (i := 6) (N := some 32) (v := ?_) (a' := ?_) bImplFirstThrows_12 rfl rfl (take_ofW HT_.out HW_.out (by kernel_rfl)) (fun _ _ _ h => h) (Or.inl ⟨by rfl, ?_⟩) hHeld ?_ ?_
                rotate_left
                ·rintro w' ⟨s0, s1, s2, s3, s4, s5⟩
                 go_simp
                 with_reducible rfl
                rotate_left
                ·simp only [Act.put, List.setIfInBounds_toArray, List.set_cons_zero, List.set_cons_succ, i64_w, i32_w]
                 rfl
                refine pure_ (i := 12) (N := some 38) (v := ?_) (a' := ?_) bImplFirstThrows_13 rfl rfl (any_of HT_.out (by kernel_rfl)) (fun _ _ _ h => h) (Or.inl ⟨by rfl, ?_⟩) ?_ ?_
                rotate_left
                ·intro w'
                 go_simp
                 with_reducible rfl
                rotate_left
                ·simp only [Act.put, List.setIfInBounds_toArray, List.set_cons_zero, List.set_cons_succ, i64_w, i32_w]
                 rfl
                refine done_ (done_of HT_.out (by kernel_rfl)) ?_
                try go_wp2
                have n0_ := Aside0.mk (Kd.R_drew HO_6.out)
                have n1_ := Aside0.mk (Kd.R_drew HO_7.out)
                have n2_ := Aside0.mk (blk_drew BK218101.out)
                have n3_ := Aside0.mk (below_drew1 HB.out)
                clear HO_6
                clear HO_7
                clear BK218101
                clear HB
                have HO_6 := n0_
                have HO_7 := n1_
                have BK218101 := n2_
                have HB := n3_
                clear n0_ n1_ n2_ n3_
                refine start_ (n := 10) (S := fun w' => w'.cell? ⟨gb218101, 0, none⟩ = some (.int .i64 a0_0) ∧ w'.cell? ⟨gb218101, 1, none⟩ = some (.int .i64 a0_1) ∧ w'.cell? ⟨gb218101, 2, none⟩ = some (.int .i64 a0_2) ∧ w'.cell? ⟨gb218101, 3, none⟩ = some (.slice A0_3 l0_3.length c0_3)) (ds := []) #[false, false, false, false, false, false, false, false, false, false] (by kernel_rfl) rfl rfl ⟨(blk_cell BK218101.out 0).trans rfl, (blk_cell BK218101.out 1).trans rfl, (blk_cell BK218101.out 2).trans rfl, (blk_cell BK218101.out 3).trans rfl⟩ (fun hHeld => ?_); refine with_tabW impl_FirstThrows.tab10 impl_FirstThrows.bits10 (fun HT_ HW_ => ?_)
                generalize w43.drew = w44 at HO_6 HO_7 BK218101 HB hHeld ⊢
                refine pure_ (i := 0) (N := some 41) (v := ?_) (a' := ?_) #[true, false, false, false, false, false, false, false, false, false] rfl rfl (any_of HT_.out (by kernel_rfl)) (fun _ _ _ h => h) (Or.inl ⟨by rfl, ?_⟩) ?_ ?_
                rotate_left
                ·intro w'
                 go_simp
                 with_reducible rfl
                rotate_left
                ·simp only [Act.put, List.setIfInBounds_toArray, List.set_cons_zero, List.set_cons_succ, i64_w, i32_w]
                 rfl
                refine pure_ (i := 1) (N := some 42) (v := ?_) (a' := ?_) #[true, true, false, false, false, false, false, false, false, false] rfl rfl (any_of HT_.out (by kernel_rfl)) (fun _ _ _ h => h) (Or.inl ⟨by rfl, ?_⟩) ?_ ?_
                rotate_left
                ·intro w'
                 go_simp
                 with_reducible rfl
                rotate_left
                ·simp only [Act.put, List.setIfInBounds_toArray, List.set_cons_zero, List.set_cons_succ, i64_w, i32_w]
                 rfl
                refine pure_ (i := 5) (N := some 46) (v := ?_) (a' := ?_) #[true, true, false, false, false, true, false, false, false, false] rfl rfl (any_of HT_.out (by kernel_rfl)) (fun _ _ _ h => h) (Or.inl ⟨by rfl, ?_⟩) ?_ ?_
                rotate_left
                ·intro w'
                 go_simp
                 with_reducible rfl
                rotate_left
                ·simp only [Act.put, List.setIfInBounds_toArray, List.set_cons_zero, List.set_cons_succ, i64_w, i32_w]
                 rfl
                refine pure_ (i := 6) (N := some 47) (v := ?_) (a' := ?_) #[true, true, false, false, false, true, true, false, false, false] rfl rfl (any_of HT_.out (by kernel_rfl)) (fun _ _ _ h => h) (Or.inl ⟨by rfl, ?_⟩) ?_ ?_
                rotate_left
                ·intro w'
                 go_simp
                 with_reducible rfl
                rotate_left
                ·simp only [Act.put, List.setIfInBounds_toArray, List.set_cons_zero, List.set_cons_succ, i64_w, i32_w]
                 rfl
                refine take_ (i := 4) (N := some 45) (v := ?_) (a' := ?_) #[true, true, false, false, true, true, true, false, false, false] rfl rfl (take_ofW HT_.out HW_.out (by kernel_rfl)) (fun _ _ _ h => h) (Or.inl ⟨by rfl, ?_⟩) hHeld ?_ ?_
                rotate_left
                ·rintro w' ⟨s0, s1, s2, s3⟩
                 go_simp
                 with_reducible rfl
                rotate_left
                ·simp only [Act.put, List.setIfInBounds_toArray, List.set_cons_zero, List.set_cons_succ, i64_w, i32_w]
                 rfl
                refine one_ (i := 2) (N := some 43) #[true, true, true, false, true, true, true, false, false, false] rfl rfl (one_of HT_.out (by kernel_rfl)) (by decide) (fun K hK => ?_)
                refine value_ (w1 := ?_) (v := ?_) (by rfl) rfl ?_ ?_
                rotate_left 2
                ·go_simp
                 constructor
                 ·rfl
                 ·rfl
                refine hK.out _ _ ⟨(blk_cell (blk_alloc BK218101.out _) 0).trans rfl, (blk_cell (blk_alloc BK218101.out _) 1).trans rfl, (blk_cell (blk_alloc BK218101.out _) 2).trans rfl, (blk_cell (blk_alloc BK218101.out _) 3).trans rfl⟩ (fun hHeld => ?_)
                clear hK K
                refine norm_ (a' := ?_) ?_ ?_
                rotate_left
                ·show Act.put _ (some 43) _ = _
                 simp only [Act.put, List.setIfInBounds_toArray, List.set_cons_zero, List.set_cons_succ, i64_w, i32_w]
                 rfl
                refine one_ (i := 3) (N := some 44) #[true, true, true, true, true, true, true, false, false, false] rfl rfl (one_of HT_.out (by kernel_rfl)) (by decide) (fun K hK => ?_)
                refine Kd.R_append_step (Kd.int .i64) (w0 := w) w.heap.size (by rfl) (.tmp 41) (.tmp 43) 58 3 (.int .i64 0) 8 rfl Try.underlying58 info3 rfl (by decide) (by omega) u7 x7_1 x8_2 [.int .i64 x8_2] (fun k_ => some k_ ≠ (.slice (some ad218112) t218106.length co30 : Value).ownBlock) (fun _ => False) rfl rfl ?aP (fun _ hk => hk.elim) ?aF ?aO ?aB ?aS ?aL ?_
                (case aP => exact rfl)
                (case aB => exact (by repeat (first | (with_reducible first | exact HB.out | apply below_alloc | apply pw_below_drewN | apply below_drew1 | refine below_set ?_ GE218101.out) | exact HB.out)))
                (case aF => exact (fun k_ hk => Kd.fresh' (Kd.R_lt (by (with_reducible repeat (first | apply Kd.R_alloc | apply Kd.R_drewN | apply Kd.R_drew)); exact HO_6.out)) k_ hk))
                (case aO => exact (by (with_reducible repeat (first | apply Kd.R_alloc | apply Kd.R_drewN | apply Kd.R_drew)); exact HO_7.out))
                (case aS => exact (below_size (by repeat (first | (with_reducible first | exact HB.out | apply below_alloc | apply pw_below_drewN | apply below_drew1 | refine below_set ?_ GE218101.out) | exact HB.out))))
                (case aL => have := LMc40.out; omega)
                intro v218117 w45 ho hb hg hat
                rw [← Ny218116.out] at ho
                have n0_ := Aside0.mk (Kd.R_after (ok := (fun _ => True)) (by (with_reducible repeat (first | apply Kd.R_alloc | apply Kd.R_drewN | apply Kd.R_drew)); exact Kd.R_mono HO_6.out (fun _ hk => ⟨trivial, hk⟩)) hg hat)
                have n1_ := Aside0.mk (blk_grown (g := gb218101) (o := .cells #[.int .i64 a0_0, .int .i64 a0_1, .int .i64 a0_2, .slice A0_3 l0_3.length c0_3] 32 (0, 0)) (by (with_reducible repeat (first | refine blk_drewN ?_ _ | refine blk_drew ?_ | refine blk_alloc ?_ _)); exact BK218101.out) hg (Kd.R_ne HO_7.out BK218101.out (by decide)))
                have n2_ := Aside0.mk (hb)
                have n3_ := Aside0.mk (ho)
                clear HO_6
                clear BK218101
                clear HB
                clear HO_7
                have HO_6 := n0_
                have BK218101 := n1_
                have HB := n2_
                have HO218118 := n3_
                clear n0_ n1_ n2_ n3_
                clear ho hb hg hat
                refine hK.out _ _ ⟨(blk_cell BK218101.out 0).trans rfl, (blk_cell BK218101.out 1).trans rfl, (blk_cell BK218101.out 2).trans rfl, (blk_cell BK218101.out 3).trans rfl⟩ (fun hHeld => ?_)
                clear hK K
                refine norm_ (a' := ?_) ?_ ?_
                rotate_left
                ·show Act.put _ (some 44) _ = _
                 simp only [Act.put, List.setIfInBounds_toArray, List.set_cons_zero, List.set_cons_succ, i64_w, i32_w]
                 rfl
                refine one_ (i := 7) (N := some 48) #[true, true, true, true, true, true, true, true, false, false] rfl rfl (one_of HT_.out (by kernel_rfl)) (by decide) (fun K hK => ?_)
                refine goes_ Try.func138 (by kernel_rfl) rfl #[.agg #[.int .i64 a0_0, .int .i64 a0_1, .int .i64 a0_2, .slice A0_3 l0_3.length c0_3], .int .i64 x1_1, .int .i64 x8_2] (by rfl) rfl rfl (by (try simp only [List.map_toArray, List.map_cons, List.map_nil]); first | done | rfl | (simp only [List.length_drop, List.length_take]; rfl)) ?_
                with_reducible refine (impl_Board_throw.calls k2 a0_0 a0_1 a0_2 _ _ l0_3 x1_1 x8_2 t218119 _ ?side1 ?side2 A41.out).mono ?_
                (case side1 => repeat (first | exact (Kd.C_below HR0_3.out HB.out) | (with_reducible refine Kd.C_alloc ?_ _) | (with_reducible refine Kd.C_drewN ?_ _) | (with_reducible refine Kd.C_drew ?_)))
                (case side2 => exact HC0_3.out)
                rintro e w46 ⟨rfl, hb⟩
                refine ⟨_, rfl, ?_⟩
                have n0_ := Aside0.mk (Kd.R_below (by (with_reducible repeat (first | apply Kd.R_alloc | apply Kd.R_drewN | apply Kd.R_drew)); exact HO_6.out) hb)
                have n1_ := Aside0.mk (Kd.R_below (by (with_reducible repeat (first | apply Kd.R_alloc | apply Kd.R_drewN | apply Kd.R_drew)); exact HO218118.out) hb)
                have n2_ := Aside0.mk (blk_below (g := gb218101) (o := .cells #[.int .i64 a0_0, .int .i64 a0_1, .int .i64 a0_2, .slice A0_3 l0_3.length c0_3] 32 (0, 0)) (by (with_reducible repeat (first | refine blk_drewN ?_ _ | refine blk_drew ?_ | refine blk_alloc ?_ _)); exact BK218101.out) hb)
                have n3_ := Aside0.mk (below_step (by repeat (first | (with_reducible first | exact HB.out | apply below_alloc | apply pw_below_drewN | apply below_drew1 | refine below_set ?_ GE218101.out) | exact HB.out)) hb)
                clear HO_6
                clear HO218118
                clear BK218101
                clear HB
                have HO_6 := n0_
                have HO218118 := n1_
                have BK218101 := n2_
                have HB := n3_
                clear n0_ n1_ n2_ n3_
                (try clear hb)
                (try clear hb2)
                (try clear hk)
                (try clear hi)
                refine hK.out _ _ ⟨(blk_cell BK218101.out 0).trans rfl, (blk_cell BK218101.out 1).trans rfl, (blk_cell BK218101.out 2).trans rfl, (blk_cell BK218101.out 3).trans rfl⟩ (fun hHeld => ?_)
                clear hK K
                refine norm_ (a' := ?_) ?_ ?_
                rotate_left
                ·show Act.put _ (some 48) _ = _
                 simp only [Act.put, List.setIfInBounds_toArray, List.set_cons_zero, List.set_cons_succ, i64_w, i32_w]
                 rfl
                refine pure_ (i := 8) (N := some 7) (v := ?_) (a' := ?_) #[true, true, true, true, true, true, true, true, true, false] rfl rfl (any_of HT_.out (by kernel_rfl)) (fun _ _ _ h => h) (Or.inl ⟨by rfl, ?_⟩) ?_ ?_
                rotate_left
                ·intro w'
                 go_simp
                 with_reducible rfl
                rotate_left
                ·simp only [Act.put, List.setIfInBounds_toArray, List.set_cons_zero, List.set_cons_succ, i64_w, i32_w]
                 rfl
                refine pure_ (i := 9) (N := some 1) (v := ?_) (a' := ?_) #[true, true, true, true, true, true, true, true, true, true] rfl rfl (any_of HT_.out (by kernel_rfl)) (fun _ _ _ h => h) (Or.inl ⟨by rfl, ?_⟩) ?_ ?_
                rotate_left
                ·intro w'
                 go_simp
                 with_reducible rfl
                rotate_left
                ·simp only [Act.put, List.setIfInBounds_toArray, List.set_cons_zero, List.set_cons_succ, i64_w, i32_w]
                 rfl
                refine done_ (done_of HT_.out (by kernel_rfl)) ?_
                try go_wp2
                go_roundg k2
                case measure => have := HK1.out; have := HK2.out; omega
                case rel => exact ⟨(t218119), (y218116), (by first | rfl | (simp; done) | (simp [*]; done)), H', ⟨by have := HK1.out; have := HK2.out; omega⟩, ⟨by (with_reducible repeat (first | apply Kd.R_alloc | apply Kd.R_drewN | apply Kd.R_drew)); exact Kd.R_mono HO_6.out (fun _ hk => hk.2)⟩, ⟨by (with_reducible repeat (first | apply Kd.R_alloc | apply Kd.R_drewN | apply Kd.R_drew)); exact HO218118.out⟩, ⟨by (with_reducible repeat (first | refine blk_drewN ?_ _ | refine blk_drew ?_ | refine blk_alloc ?_ _)); exact BK218101.out⟩, ⟨by repeat (first | (with_reducible first | exact HB.out | apply below_alloc | apply pw_below_drewN | apply below_drew1 | refine below_set ?_ GE218101.out) | exact HB.out)⟩⟩
               ·rw [if_neg c40] at H
                exact absurd H (by simp)
              ·rw [if_neg c39] at H
               have c39b0 : ((rd t218106 t218113) == (wrap64 ((rd t218106 x1_1) - 1))) = false := beq_eq_false_iff_ne.mpr c39
               have c39b1 : ((rd t218106 t218113) != (wrap64 ((rd t218106 x1_1) - 1))) = true := bne_iff_ne.mpr c39
               have H' := Aside0.mk H
               clear H
               try go_wp2
               have n0_ := Aside0.mk (Kd.R_drew HO_6.out)
               have n1_ := Aside0.mk (Kd.R_drew HO_7.out)
               have n2_ := Aside0.mk (blk_drew BK218101.out)
               have n3_ := Aside0.mk (below_drew1 HB.out)
               clear HO_6
               clear HO_7
               clear BK218101
               clear HB
               have HO_6 := n0_
               have HO_7 := n1_
               have BK218101 := n2_
               have HB := n3_
               clear n0_ n1_ n2_ n3_
               have p218115 : 0 ≤ (x1_1 : Int) := of_decide_eq_true (by first | (with_reducible assumption) | assumption)
               have q218115 : x1_1 < (t218106.length : Int) := of_decide_eq_true (by first | (with_reducible assumption) | assumption)
               obtain ⟨ad218115, e218115, hx218115_0⟩ := Kd.at_int (Kd.R_reads' HO_6.out).2.2 x1_1 p218115 q218115
               obtain rfl : ad218112 = ad218115 := (by injection e218115)
               replace p218115 := eq_true p218115
               replace q218115 := eq_true q218115
               have p218114 : 0 ≤ (t218113 : Int) := of_decide_eq_true (by first | (with_reducible assumption) | assumption)
               have q218114 : t218113 < (t218106.length : Int) := of_decide_eq_true (by first | (with_reducible assumption) | assumption)
               obtain ⟨ad218114, e218114, hx218114_0⟩ := Kd.at_int (Kd.R_reads' HO_6.out).2.2 t218113 p218114 q218114
               obtain rfl : ad218112 = ad218114 := (by injection e218114)
               replace p218114 := eq_true p218114
               replace q218114 := eq_true q218114
               refine start_ (n := 13) (S := fun w' => w'.cell? ⟨gb218101, 0, none⟩ = some (.int .i64 a0_0) ∧ w'.cell? ⟨gb218101, 1, none⟩ = some (.int .i64 a0_1) ∧ w'.cell? ⟨gb218101, 2, none⟩ = some (.int .i64 a0_2) ∧ w'.cell? ⟨gb218101, 3, none⟩ = some (.slice A0_3 l0_3.length c0_3) ∧ w'.cell? (ad218112.add (x1_1).toNat) = some (.int .i64 (rd t218106 x1_1)) ∧ w'.cell? (ad218112.add (t218113).toNat) = some (.int .i64 (rd t218106 t218113))) (ds := []) bImplFirstThrows_0 (by kernel_rfl) rfl rfl ⟨(blk_cell BK218101.out 0).trans rfl, (blk_cell BK218101.out 1).trans rfl, (blk_cell BK218101.out 2).trans rfl, (blk_cell BK218101.out 3).trans rfl, hx218115_0, hx218114_0⟩ (fun hHeld => ?_); refine with_tabW impl_FirstThrows.tab8 impl_FirstThrows.bits8 (fun HT_ HW_ => ?_)
               generalize wr.drew = w47 at HO_6 HO_7 BK218101 HB hx218114_0 hx218115_0 hHeld ⊢
               refine pure_ (i := 0) (N := some 26) (v := ?_) (a' := ?_) bImplFirstThrows_1 rfl rfl (any_of HT_.out (by kernel_rfl)) (fun _ _ _ h => h) (Or.inl ⟨by rfl, ?_⟩) ?_ ?_
               rotate_left
               ·intro w'
                go_simp
                with_reducible rfl
               rotate_left
               ·simp only [Act.put, List.setIfInBounds_toArray, List.set_cons_zero, List.set_cons_succ, i64_w, i32_w]
                rfl
               refine pure_ (i := 2) (N := some 28) (v := ?_) (a' := ?_) bImplFirstThrows_2 rfl rfl (any_of HT_.out (by kernel_rfl)) (fun _ _ _ h => h) (Or.inl ⟨by rfl, ?_⟩) ?_ ?_
               rotate_left
               ·intro w'
                go_simp
                with_reducible rfl
               rotate_left
               ·simp only [Act.put, List.setIfInBounds_toArray, List.set_cons_zero, List.set_cons_succ, i64_w, i32_w]
                rfl
               refine pure_ (i := 3) (N := some 29) (v := ?_) (a' := ?_) bImplFirstThrows_3 rfl rfl (any_of HT_.out (by kernel_rfl)) (fun _ _ _ h => h) (Or.inl ⟨by rfl, ?_⟩) ?_ ?_
               rotate_left
               ·intro w'
                go_simp
                with_reducible rfl
               rotate_left
               ·simp only [Act.put, List.setIfInBounds_toArray, List.set_cons_zero, List.set_cons_succ, i64_w, i32_w]
                rfl
               refine pure_ (i := 7) (N := some 33) (v := ?_) (a' := ?_) bImplFirstThrows_4 rfl rfl (any_of HT_.out (by kernel_rfl)) (fun _ _ _ h => h) (Or.inl ⟨by rfl, ?_⟩) ?_ ?_
               rotate_left
               ·intro w'
                go_simp
                with_reducible rfl
               rotate_left
               ·simp only [Act.put, List.setIfInBounds_toArray, List.set_cons_zero, List.set_cons_succ, i64_w, i32_w]
                rfl
               refine pure_ (i := 8) (N := some 34) (v := ?_) (a' := ?_) bImplFirstThrows_5 rfl rfl (any_of HT_.out (by kernel_rfl)) (fun _ _ _ h => h) (Or.inl ⟨by rfl, ?_⟩) ?_ ?_
               rotate_left
               ·intro w'
                go_simp
                with_reducible rfl
               rotate_left
               ·simp only [Act.put, List.setIfInBounds_toArray, List.set_cons_zero, List.set_cons_succ, i64_w, i32_w]
                rfl
               refine pure_ (i := 9) (N := some 35) (v := ?_) (a' := ?_) bImplFirstThrows_6 rfl rfl (any_of HT_.out (by kernel_rfl)) (fun _ _ _ h => h) (Or.inl ⟨by rfl, ?_⟩) ?_ ?_
               rotate_left
               ·intro w'
                go_simp
                with_reducible rfl
               rotate_left
               ·simp only [Act.put, List.setIfInBounds_toArray, List.set_cons_zero, List.set_cons_succ, i64_w, i32_w]
                rfl
               refine take_ (i := 1) (N := some 27) (v := ?_) (a' := ?_) bImplFirstThrows_7 rfl rfl (take_ofW HT_.out HW_.out (by kernel_rfl)) (fun _ _ _ h => h) (Or.inl ⟨by rfl, ?_⟩) hHeld ?_ ?_
               rotate_left
               ·rintro w' ⟨s0, s1, s2, s3, s4, s5⟩
                go_simp
                with_reducible rfl
               rotate_left
               ·simp only [Act.put, List.setIfInBounds_toArray, List.set_cons_zero, List.set_cons_succ, i64_w, i32_w]
                rfl
               refine take_ (i := 10) (N := some 36) (v := ?_) (a' := ?_) bImplFirstThrows_8 rfl rfl (take_ofW HT_.out HW_.out (by kernel_rfl)) (fun _ _ _ h => h) (Or.inl ⟨by rfl, ?_⟩) hHeld ?_ ?_
               rotate_left
               ·rintro w' ⟨s0, s1, s2, s3, s4, s5⟩
                go_simp
                with_reducible rfl
               rotate_left
               ·simp only [Act.put, List.setIfInBounds_toArray, List.set_cons_zero, List.set_cons_succ, i64_w, i32_w]
                rfl
               refine pure_ (i := 11) (N := some 37) (v := ?_) (a' := ?_) bImplFirstThrows_9 rfl rfl (any_of HT_.out (by kernel_rfl)) (fun _ _ _ h => h) (Or.inl ⟨by rfl, ?_⟩) ?_ ?_
               rotate_left
               ·intro w'
                go_simp
                with_reducible rfl
               rotate_left
               ·simp only [Act.put, List.setIfInBounds_toArray, List.set_cons_zero, List.set_cons_succ, i64_w, i32_w]
                rfl
               refine one_ (i := 4) (N := some 30) bImplFirstThrows_10 rfl rfl (one_of HT_.out (by kernel_rfl)) (by decide) (fun K hK => ?_)
               refine goes_ Try.func138 (by kernel_rfl) rfl #[.agg #[.int .i64 a0_0, .int .i64 a0_1, .int .i64 a0_2, .slice A0_3 l0_3.length c0_3], .int .i64 x1_1, .int .i64 x8_2] (by rfl) rfl rfl (by (try simp only [List.map_toArray, List.map_cons, List.map_nil]); first | done | rfl | (simp only [List.length_drop, List.length_take]; rfl)) ?_
               with_reducible refine (impl_Board_throw.calls k2 a0_0 a0_1 a0_2 _ _ l0_3 x1_1 x8_2 t218113 _ ?side1 ?side2 A34.out).mono ?_
               (case side1 => repeat (first | exact (Kd.C_below HR0_3.out HB.out) | (with_reducible refine Kd.C_alloc ?_ _) | (with_reducible refine Kd.C_drewN ?_ _) | (with_reducible refine Kd.C_drew ?_)))
               (case side2 => exact HC0_3.out)
               rintro e w48 ⟨rfl, hb⟩
               have HS4_ := (hb.cell (World.block_lt_of_cell? _ _ (hHeld.2.2.2.2.1))).trans (hHeld.2.2.2.2.1)
               have HS5_ := (hb.cell (World.block_lt_of_cell? _ _ (hHeld.2.2.2.2.2))).trans (hHeld.2.2.2.2.2)
               refine ⟨_, rfl, ?_⟩
               have n0_ := Aside0.mk (Kd.R_below (by (with_reducible repeat (first | apply Kd.R_alloc | apply Kd.R_drewN | apply Kd.R_drew)); exact HO_6.out) hb)
               have n1_ := Aside0.mk (Kd.R_below (by (with_reducible repeat (first | apply Kd.R_alloc | apply Kd.R_drewN | apply Kd.R_drew)); exact HO_7.out) hb)
               have n2_ := Aside0.mk (blk_below (g := gb218101) (o := .cells #[.int .i64 a0_0, .int .i64 a0_1, .int .i64 a0_2, .slice A0_3 l0_3.length c0_3] 32 (0, 0)) (by (with_reducible repeat (first | refine blk_drewN ?_ _ | refine blk_drew ?_ | refine blk_alloc ?_ _)); exact BK218101.out) hb)
               have n3_ := Aside0.mk (below_step (by repeat (first | (with_reducible first | exact HB.out | apply below_alloc | apply pw_below_drewN | apply below_drew1 | refine below_set ?_ GE218101.out) | exact HB.out)) hb)
               clear HO_6
               clear HO_7
               clear BK218101
               clear HB
               have HO_6 := n0_
               have HO_7 := n1_
               have BK218101 := n2_
               have HB := n3_
               clear n0_ n1_ n2_ n3_
               (try clear hb)
               (try clear hb2)
               (try clear hk)
               (try clear hi)
               refine hK.out _ _ ⟨(blk_cell BK218101.out 0).trans rfl, (blk_cell BK218101.out 1).trans rfl, (blk_cell BK218101.out 2).trans rfl, (blk_cell BK218101.out 3).trans rfl, HS4_, HS5_⟩ (fun hHeld => ?_)
               clear hK K
               refine norm_ (a' := ?_) ?_ ?_
               rotate_left
               ·show Act.put _ (some 30) _ = _
                simp only [Act.put, List.setIfInBounds_toArray, List.set_cons_zero, List.set_cons_succ, i64_w, i32_w]
                rfl
               refine pure_ (i := 5) (N := some 31) (v := ?_) (a' := ?_) bImplFirstThrows_11 rfl rfl (any_of HT_.out (by kernel_rfl)) (fun _ _ _ h => h) (Or.inl ⟨by rfl, ?_⟩) ?_ ?_
               rotate_left
               ·intro w'
                go_simp
                with_reducible rfl
               rotate_left
               ·simp only [Act.put, List.setIfInBounds_toArray, List.set_cons_zero, List.set_cons_succ, i64_w, i32_w]
                rfl
               refine take_ (i := 6) (N := some 32) (v := ?_) (a' := ?_) bImplFirstThrows_12 rfl rfl (take_ofW HT_.out HW_.out (by kernel_rfl)) (fun _ _ _ h => h) (Or.inl ⟨by rfl, ?_⟩) hHeld ?_ ?_
               rotate_left
               ·rintro w' ⟨s0, s1, s2, s3, s4, s5⟩
                go_simp
                with_reducible rfl
               rotate_left
               ·simp only [Act.put, List.setIfInBounds_toArray, List.set_cons_zero, List.set_cons_succ, i64_w, i32_w]
                rfl
               refine pure_ (i := 12) (N := some 38) (v := ?_) (a' := ?_) bImplFirstThrows_13 rfl rfl (any_of HT_.out (by kernel_rfl)) (fun _ _ _ h => h) (Or.inl ⟨by rfl, ?_⟩) ?_ ?_
               rotate_left
               ·intro w'
                go_simp
                with_reducible rfl
               rotate_left
               ·simp only [Act.put, List.setIfInBounds_toArray, List.set_cons_zero, List.set_cons_succ, i64_w, i32_w]
                rfl
               refine done_ (done_of HT_.out (by kernel_rfl)) ?_
               try go_wp2
               go_roundg k2
               case measure => have := HK1.out; have := HK2.out; omega
               case rel => exact ⟨(wrap64 (x8_2 + 1)), (by first | rfl | (simp; done) | (simp [*]; done)), H', ⟨by have := HK1.out; have := HK2.out; omega⟩, ⟨by (with_reducible repeat (first | apply Kd.R_alloc | apply Kd.R_drewN | apply Kd.R_drew)); exact HO_6.out⟩, ⟨by (with_reducible repeat (first | apply Kd.R_alloc | apply Kd.R_drewN | apply Kd.R_drew)); exact HO_7.out⟩, ⟨by (with_reducible repeat (first | refine blk_drewN ?_ _ | refine blk_drew ?_ | refine blk_alloc ?_ _)); exact BK218101.out⟩, ⟨by repeat (first | (with_reducible first | exact HB.out | apply below_alloc | apply pw_below_drewN | apply below_drew1 | refine below_set ?_ GE218101.out) | exact HB.out)⟩⟩
             ·rw [if_neg c38] at H
              exact absurd H (by simp)
            ·rw [if_neg c37] at H
             exact absurd H (by simp)
           ·rw [if_neg c36] at H
            exact absurd H (by simp)
          ·rw [if_neg c35] at H
           exact absurd H (by simp)
   ·rw [if_neg c7] at H
    exact absurd H (by simp)
  ·rw [if_neg c6] at H
   exact absurd H (by simp)
 ·replace c4 := Bool.eq_false_iff.mpr c4
  subst c4
  have H1 : (some (([] : List Int), false)) = some (r1, r2) := by rw [if_neg (show ¬ (false = true) by decide)] at H; exact H
  clear H
  have H := H1
  clear H1
  simp only [Option.some.injEq, Prod.mk.injEq] at H
  obtain ⟨rfl, rfl⟩ := H
  go_enter Try.func109, Try.ntmps109
  go_wp2_with (first | ((with_reducible refine gate_dst (N := 2) rfl ?_); refine box_event ?hg (N := 2) ?hd (cs := #[.int .i64 a0_0, .int .i64 a0_1, .int .i64 a0_2, .slice A0_3 l0_3.length c0_3]) (t := 32) ?hr ?_; (case hd => rfl); (case hg => rfl); (case hr => first | (go_simp; done) | (go_simp; rfl)); intro gb218101 hg w49 hbox hb; have n0_ := Aside0.mk (below_step (by repeat (first | (with_reducible first | exact HB.out | apply below_alloc | apply pw_below_drewN | apply below_drew1) | exact HB.out)) hb); have n1_ := Aside0.mk (hbox); have n2_ := Aside0.mk ((by rw [hg]; exact (below_size (by repeat (first | (with_reducible first | exact HB.out | apply below_alloc | apply pw_below_drewN | apply below_drew1) | exact HB.out))) : w.heap.size ≤ gb218101)); have n3_ := Aside0.mk ((by rw [hg]; exact (below_size (by repeat (first | (with_reducible first | exact HB.out | apply below_alloc | apply pw_below_drewN | apply below_drew1) | exact HB.out))) : w.heap.size ≤ gb218101)); clear HB; have HB := n0_; have BK218101 := n1_; have GW218101 := n2_; have GE218101 := n3_; clear n0_ n1_ n2_ n3_; clear hb hbox hg; have hcz50_0 : w49.cell? ⟨gb218101, 0, none⟩ = some (.int .i64 a0_0) := (blk_cell BK218101.out 0).trans rfl; have hcz50_1 : w49.cell? ⟨gb218101, 1, none⟩ = some (.int .i64 a0_1) := (blk_cell BK218101.out 1).trans rfl; have hcz50_2 : w49.cell? ⟨gb218101, 2, none⟩ = some (.int .i64 a0_2) := (blk_cell BK218101.out 2).trans rfl; have hcz50_3 : w49.cell? ⟨gb218101, 3, none⟩ = some (.slice A0_3 l0_3.length c0_3) := (blk_cell BK218101.out 3).trans rfl; have hfz50_0 := blk_frozen BK218101.out 0; have hfz50_1 := blk_frozen BK218101.out 1; have hfz50_2 := blk_frozen BK218101.out 2; have hfz50_3 := blk_frozen BK218101.out 3) | ((with_reducible refine gate_dst (N := 11) rfl ?_); refine Kd.R_lit (Kd.int .i64) _ 3 ?hg (N := 11) ?hd (xs := ([a1] : List Int)) (inner := [.int .i64 a1]) (ok := fun _ => True) (okp := fun _ => True) ?hr ?hp (fun _ hk => hk) trivial (Below.refl _ _) (Nat.le_refl _) (by simp) ?_; (case hd => rfl); (case hg => rfl); (case hr => first | (go_simp; done) | (go_simp; rfl)); (case hp => exact (Reps.one (show Kd.M (Kd.int .i64) _ _ _ a1 [.int .i64 a1] from rfl) (Reps.none _ _))); intro v218103 w51 ho52 hb hg_ hnew_; clear hg_ hnew_; (first | rw [← Ny218102.out] at ho52 | (simp only [Int.reduceToNat] at ho52; rw [← Ny218102.out] at ho52)); have n0_ := Aside0.mk (Kd.R_lower ho52 (below_size (by repeat (first | (with_reducible first | exact HB.out | apply below_alloc | apply pw_below_drewN | apply below_drew1 | refine below_set ?_ GE218101.out) | exact HB.out)))); have n1_ := Aside0.mk (blk_below (g := gb218101) (o := .cells #[.int .i64 a0_0, .int .i64 a0_1, .int .i64 a0_2, .slice A0_3 l0_3.length c0_3] 32 (0, 0)) (by (with_reducible repeat (first | refine blk_drewN ?_ _ | refine blk_drew ?_ | refine blk_alloc ?_ _)); exact BK218101.out) hb); have n2_ := Aside0.mk (below_step (by repeat (first | (with_reducible first | exact HB.out | apply below_alloc | apply pw_below_drewN | apply below_drew1 | refine below_set ?_ GE218101.out) | exact HB.out)) hb); clear BK218101; clear HB; have HO218104 := n0_; have BK218101 := n1_; have HB := n2_; clear n0_ n1_ n2_; clear hb ho52; obtain ⟨Ao53, co53, eo53⟩ := Kd.R_slice HO218104.out; subst eo53) | ((with_reducible refine gate_callee (f := 134) rfl ?_); refine goesL_ (some 12) rfl rfl Try.func134 (by kernel_rfl) rfl #[.agg #[.int .i64 a0_0, .int .i64 a0_1, .int .i64 a0_2, .slice A0_3 l0_3.length c0_3], .slice Ao53 y218102.length co53] rfl (by (try simp only [List.map_toArray, List.map_cons, List.map_nil]); first | done | rfl | (simp only [List.length_drop, List.length_take]; rfl)) ?_; (with_reducible refine (impl_areSquares.calls k a0_0 a0_1 a0_2 _ _ l0_3 _ _ y218102 false _ ?side1 ?side2 ?side3 ?side4 A3.out).mono ?_); (case side1 => repeat (first | exact (Kd.C_below HR0_3.out HB.out) | (with_reducible refine Kd.C_alloc ?_ _) | (with_reducible refine Kd.C_drewN ?_ _) | (with_reducible refine Kd.C_drew ?_))); (case side2 => exact HC0_3.out); (case side3 => repeat (first | exact (Kd.R_reads' HO218104.out).2.2 | (with_reducible refine Kd.C_alloc ?_ _) | (with_reducible refine Kd.C_drewN ?_ _) | (with_reducible refine Kd.C_drew ?_))); (case side4 => exact (Kd.R_reads' HO218104.out).2.1); rintro e w54 ⟨rfl, hb⟩; refine ⟨_, rfl, ?_⟩; have n0_ := Aside0.mk (Kd.R_below (by (with_reducible repeat (first | apply Kd.R_alloc | apply Kd.R_drewN | apply Kd.R_drew)); exact HO218104.out) hb); have n1_ := Aside0.mk (blk_below (g := gb218101) (o := .cells #[.int .i64 a0_0, .int .i64 a0_1, .int .i64 a0_2, .slice A0_3 l0_3.length c0_3] 32 (0, 0)) (by (with_reducible repeat (first | refine blk_drewN ?_ _ | refine blk_drew ?_ | refine blk_alloc ?_ _)); exact BK218101.out) hb); have n2_ := Aside0.mk (below_step (by repeat (first | (with_reducible first | exact HB.out | apply below_alloc | apply pw_below_drewN | apply below_drew1 | refine below_set ?_ GE218101.out) | exact HB.out)) hb); clear HO218104; clear BK218101; clear HB; have HO218104 := n0_; have BK218101 := n1_; have HB := n2_; clear n0_ n1_ n2_; (try clear hb); (try clear hb2); (try clear hk); (try clear hi)))
  go_ret2
  exact ⟨_, by first | rfl | (simp [errW_none, errW_some] <;> rfl) | (simp [*, errW_none, errW_some] <;> rfl), by first | exact Kd.R_nil _ _ _ _ _ | exact Kd.N_nil _ _ _ _ _ | exact Kd.V_nil _ _ _ _ _ | exact Kd.Q_nil _ _ _ _ _ | exact Kd.S_nil _ _ _ _ _, by repeat (first | (with_reducible first | exact HB.out | apply below_alloc | apply pw_below_drewN | apply below_drew1 | refine below_set ?_ GE218101.out) | exact HB.out)⟩

end Go.Proofs.Ytkobjjadojpjfaa.Pr
