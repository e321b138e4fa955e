-- A text of the machine side, written by wip/gen.py of this repo out of the translation. Not trusted: Lean checks it.
import Derived.Test.YtkobjjadojpjfaaF0
import Derived.Test.YtkobjjadojpjfaaFImplBoardFar
import Derived.Test.YtkobjjadojpjfaaFImplBoardLandings
import Derived.Test.YtkobjjadojpjfaaHareSquares
namespace Go.Proofs.Ytkobjjadojpjfaa.Pr
open Go.RowKit Go.Proofs.YtkobjjadojpjfaaW.PrintWords Go.Proofs.YtkobjjadojpjfaaW.PrintLast Go.Proofs.YtkobjjadojpjfaaW.PrintMore
attribute [local go_sem] max2_int min2_int max_two min_two max_three min_three max_four min_four   -- for this text's walks alone
set_option linter.unusedVariables false
set_option linter.unusedSimpArgs false

/-! ### impl_CountFewest: function 100 -/
mutual
def impl_CountFewest.l0 : Nat → Int → List Int → List Int → Int → Int → Int → Int → List (S27) → Option (Int × Bool)
 | 0, _, _, _, _, _, _, _, _ => none
 | k + 1, x1, x6, x7, x8, x200102000, x200102001, x200102002, x200102003 => if 0 ≤ x1 then (if x1 < (x6.length : Int) then (if x8 ≤ (rd x6 x1) then (impl_CountFewest.l1 k x1 x6 x7 x8 x200102000 0 x200102000 x200102001 x200102002 x200102003) else (if x1 < (x7.length : Int) then (if (rd x7 x1) > 1000000000000000 then (some (0, false)) else (some (rd x7 x1, true))) else (none))) else (none)) else (none)
def impl_CountFewest.l1 : Nat → Int → List Int → List Int → Int → Int → Int → Int → Int → Int → List (S27) → Option (Int × Bool)
 | 0, _, _, _, _, _, _, _, _, _, _ => none
 | k + 1, x1, x6, x7, x8, x41, x42, x200102000, x200102001, x200102002, x200102003 => if x42 < x41 then (if 0 ≤ x42 then (if x42 < (x6.length : Int) then (if (rd x6 x42) = x8 then ((impl_Board_landings.f k x200102000 x200102001 x200102002 x200102003 x42).bind fun t200118 => (impl_CountFewest.l2 k x1 x6 x7 x8 x42 x41 x42 t200118 (t200118.length : Int) 0 x200102000 x200102001 x200102002 x200102003)) else (impl_CountFewest.l1 k x1 x6 x7 x8 x41 (wrap64 (x42 + 1)) x200102000 x200102001 x200102002 x200102003)) else (none)) else (none)) else (impl_CountFewest.l0 k x1 x6 x7 (wrap64 (x8 + 1)) x200102000 x200102001 x200102002 x200102003)
def impl_CountFewest.l2 : Nat → Int → List Int → List Int → Int → Int → Int → Int → List Int → Int → Int → Int → Int → Int → List (S27) → Option (Int × Bool)
 | 0, _, _, _, _, _, _, _, _, _, _, _, _, _, _ => none
 | k + 1, x1, x6, x7, x8, x9, x41, x42, x53, x54, x55, x200102000, x200102001, x200102002, x200102003 => if x55 < x54 then (if 0 ≤ x55 then (if x55 < (x53.length : Int) then (if 0 ≤ (rd x53 x55) then (if (rd x53 x55) < (x6.length : Int) then (if (rd x6 (rd x53 x55)) = (wrap64 (x8 - 1)) then (if 0 ≤ x9 then (if x9 < (x7.length : Int) then (if (rd x53 x55) < (x7.length : Int) then (impl_CountFewest.l2 k x1 x6 (x7.set (x9 : Int).toNat (mn 1000000000000001 (wrap64 ((rd x7 x9) + (rd x7 (rd x53 x55)))))) x8 x9 x41 x42 x53 x54 (wrap64 (x55 + 1)) x200102000 x200102001 x200102002 x200102003) else (none)) else (none)) else (none)) else (impl_CountFewest.l2 k x1 x6 x7 x8 x9 x41 x42 x53 x54 (wrap64 (x55 + 1)) x200102000 x200102001 x200102002 x200102003)) else (none)) else (none)) else (none)) else (none)) else (impl_CountFewest.l1 k x1 x6 x7 x8 x41 (wrap64 (x42 + 1)) x200102000 x200102001 x200102002 x200102003)
end
def impl_CountFewest.f (k : Nat) (a0_0 : Int) (a0_1 : Int) (a0_2 : Int) (l0_3 : List (S27)) (a1 : Int) : Option (Int × Bool) := (impl_areSquares.f k a0_0 a0_1 a0_2 l0_3 (([a1] : List Int))).bind fun t200105 => (if t200105 = true then ((impl_Board_far.f k a0_0 a0_1 a0_2 l0_3).bind fun t200106 => (if 0 ≤ a1 then (if a1 < (t200106.length : Int) then (if (rd t200106 a1) < 0 then (some (0, true)) else (if 0 ≤ (wrap64 (a0_0 + 1)) then (if (wrap64 (a0_0 + 1) : Int).toNat ≤ 35184372088832 then ((some (List.replicate (wrap64 (a0_0 + 1) : Int).toNat 0 : List Int)).bind fun y200110 => (if 0 ≤ a0_0 then (if a0_0 < (y200110.length : Int) then (impl_CountFewest.l0 k a1 t200106 (y200110.set (a0_0 : Int).toNat 1) 1 a0_0 a0_1 a0_2 l0_3) else (none)) else (none))) else (none)) else (none))) else (none)) else (none))) else (some (0, false)))
def impl_CountFewest.T19 : Bool × List (List Nat × List Nat) := (true, [([], []), ([], []), ([], []), ([], []), ([2, 3], [2, 3]), ([4], [4]), ([], []), ([], []), ([6, 7], [6, 7]), ([8], [8]), ([5, 9], [5, 9]), ([10], [10]), ([0, 1, 0, 1, 2, 3, 4, 5, 6, 7, 8, 9, 10, 11], [0, 1]), ([12, 11, 0, 1, 2, 3, 4, 5, 6, 7, 8, 9, 10, 11], [11, 12])])
def impl_CountFewest.B19 : List Nat := [0, 0, 0, 0, 12, 28, 0, 0, 192, 448, 1020, 2044, 4095, 8191]
theorem impl_CountFewest.tab19 : rtab .any (opsOf Try.f100 19) = impl_CountFewest.T19 := by kernel_rfl
theorem impl_CountFewest.bits19 : waitsOk impl_CountFewest.T19.2 impl_CountFewest.B19 = true := by kernel_rfl
set_option maxHeartbeats 8000000 in
set_option maxRecDepth 100000 in
theorem impl_CountFewest.calls (k : Nat) (a0_0 : Int) (a0_1 : Int) (a0_2 : Int) (A0_3 : Option Addr) (c0_3 : Nat) (l0_3 : List (S27)) (a1 : Int) (r1 : Int) (r2 : Bool) (w : World) (hr0_3 : Kd.C k27 w A0_3 l0_3.length l0_3) (hc0_3 : l0_3.length ≤ c0_3) (h : impl_CountFewest.f k a0_0 a0_1 a0_2 l0_3 a1 = some (r1, r2)) :
  Calls Try.prog 100 #[.agg #[.int .i64 a0_0, .int .i64 a0_1, .int .i64 a0_2, .slice A0_3 l0_3.length c0_3], .int .i64 a1] w fun e w' => e = .returned (.tuple #[.int .i64 r1, .bool r2]) ∧ Below w.heap.size w w' := by
 have hu32 := Try.underlying32
 have HR0_3 := Aside0.mk hr0_3
 have HC0_3 := Aside0.mk hc0_3
 clear hr0_3 hc0_3
 have HB := Aside0.mk (Below.refl w.heap.size w)
 have H : ((impl_areSquares.f k a0_0 a0_1 a0_2 l0_3 (([a1] : List Int))).bind fun t200105 => (if t200105 = true then ((impl_Board_far.f k a0_0 a0_1 a0_2 l0_3).bind fun t200106 => (if 0 ≤ a1 then (if a1 < (t200106.length : Int) then (if (rd t200106 a1) < 0 then (some (0, true)) else (if 0 ≤ (wrap64 (a0_0 + 1)) then (if (wrap64 (a0_0 + 1) : Int).toNat ≤ 35184372088832 then ((some (List.replicate (wrap64 (a0_0 + 1) : Int).toNat 0 : List Int)).bind fun y200110 => (if 0 ≤ a0_0 then (if a0_0 < (y200110.length : Int) then (impl_CountFewest.l0 k a1 t200106 (y200110.set (a0_0 : Int).toNat 1) 1 a0_0 a0_1 a0_2 l0_3) else (none)) else (none))) else (none)) else (none))) else (none)) else (none))) else (some (0, false)))) = some (r1, r2) := h
 clear h
 obtain ⟨y200102, hy200102⟩ : ∃ y_ : List Int, y_ = (([a1] : List Int)) := ⟨_, rfl⟩
 replace H : ((impl_areSquares.f k a0_0 a0_1 a0_2 l0_3 y200102).bind fun t200105 => (if t200105 = true then ((impl_Board_far.f k a0_0 a0_1 a0_2 l0_3).bind fun t200106 => (if 0 ≤ a1 then (if a1 < (t200106.length : Int) then (if (rd t200106 a1) < 0 then (some (0, true)) else (if 0 ≤ (wrap64 (a0_0 + 1)) then (if (wrap64 (a0_0 + 1) : Int).toNat ≤ 35184372088832 then ((some (List.replicate (wrap64 (a0_0 + 1) : Int).toNat 0 : List Int)).bind fun y200110 => (if 0 ≤ a0_0 then (if a0_0 < (y200110.length : Int) then (impl_CountFewest.l0 k a1 t200106 (y200110.set (a0_0 : Int).toNat 1) 1 a0_0 a0_1 a0_2 l0_3) else (none)) else (none))) else (none)) else (none))) else (none)) else (none))) else (some (0, false)))) = some (r1, r2) := by first | (rw [hy200102]; with_reducible exact H) | (have H2_ := (Option.bind_some _ _).symm.trans H; rw [hy200102]; with_reducible exact H2_) | (have H2_ := (Option.bind_some _ _).symm.trans H; with_reducible exact H2_) | with_reducible exact H | (rw [hy200102]; exact H) | exact H
 have Ny200102 := Aside0.mk hy200102
 clear hy200102
 replace H := Option.bind_eq_some_iff.mp H
 obtain ⟨t200105, A30, H⟩ := H
 replace H : (if t200105 = true then ((impl_Board_far.f k a0_0 a0_1 a0_2 l0_3).bind fun t200106 => (if 0 ≤ a1 then (if a1 < (t200106.length : Int) then (if (rd t200106 a1) < 0 then (some (0, true)) else (if 0 ≤ (wrap64 (a0_0 + 1)) then (if (wrap64 (a0_0 + 1) : Int).toNat ≤ 35184372088832 then ((some (List.replicate (wrap64 (a0_0 + 1) : Int).toNat 0 : List Int)).bind fun y200110 => (if 0 ≤ a0_0 then (if a0_0 < (y200110.length : Int) then (impl_CountFewest.l0 k a1 t200106 (y200110.set (a0_0 : Int).toNat 1) 1 a0_0 a0_1 a0_2 l0_3) else (none)) else (none))) else (none)) else (none))) else (none)) else (none))) else (some (0, false))) = some (r1, r2) := H
 have A3 := Aside0.mk A30
 clear A30
 by_cases c4 : t200105 = true
 ·subst c4
  have H1 : ((impl_Board_far.f k a0_0 a0_1 a0_2 l0_3).bind fun t200106 => (if 0 ≤ a1 then (if a1 < (t200106.length : Int) then (if (rd t200106 a1) < 0 then (some (0, true)) else (if 0 ≤ (wrap64 (a0_0 + 1)) then (if (wrap64 (a0_0 + 1) : Int).toNat ≤ 35184372088832 then ((some (List.replicate (wrap64 (a0_0 + 1) : Int).toNat 0 : List Int)).bind fun y200110 => (if 0 ≤ a0_0 then (if a0_0 < (y200110.length : Int) then (impl_CountFewest.l0 k a1 t200106 (y200110.set (a0_0 : Int).toNat 1) 1 a0_0 a0_1 a0_2 l0_3) else (none)) else (none))) else (none)) else (none))) else (none)) else (none))) = some (r1, r2) := by rw [if_pos rfl] at H; exact H
  clear H
  have H := H1
  clear H1
  replace H := Option.bind_eq_some_iff.mp H
  obtain ⟨t200106, A50, H⟩ := H
  replace H : (if 0 ≤ a1 then (if a1 < (t200106.length : Int) then (if (rd t200106 a1) < 0 then (some (0, true)) else (if 0 ≤ (wrap64 (a0_0 + 1)) then (if (wrap64 (a0_0 + 1) : Int).toNat ≤ 35184372088832 then ((some (List.replicate (wrap64 (a0_0 + 1) : Int).toNat 0 : List Int)).bind fun y200110 => (if 0 ≤ a0_0 then (if a0_0 < (y200110.length : Int) then (impl_CountFewest.l0 k a1 t200106 (y200110.set (a0_0 : Int).toNat 1) 1 a0_0 a0_1 a0_2 l0_3) else (none)) else (none))) else (none)) else (none))) else (none)) else (none)) = some (r1, r2) := H
  have A5 := Aside0.mk A50
  clear A50
  by_cases c6 : 0 ≤ a1
  ·rw [if_pos c6] at H
   have c6b0 : decide (0 ≤ a1) = true := decide_eq_true c6
   clear c6
   by_cases c7 : a1 < (t200106.length : Int)
   ·rw [if_pos c7] at H
    have c7b0 : decide (a1 < (t200106.length : Int)) = true := decide_eq_true c7
    clear c7
    by_cases c8 : (rd t200106 a1) < 0
    ·rw [if_pos c8] at H
     have c8b0 : decide ((rd t200106 a1) < 0) = true := decide_eq_true c8
     clear c8
     simp only [Option.some.injEq, Prod.mk.injEq] at H
     obtain ⟨rfl, rfl⟩ := H
     go_enter Try.func100, Try.ntmps100
     go_wp2_with (first | ((with_reducible refine gate_dst (N := 2) rfl ?_); refine box_event ?hg (N := 2) ?hd (cs := #[.int .i64 a0_0, .int .i64 a0_1, .int .i64 a0_2, .slice A0_3 l0_3.length c0_3]) (t := 32) ?hr ?_; (case hd => rfl); (case hg => rfl); (case hr => first | (go_simp; done) | (go_simp; rfl)); intro gb200101 hg w9 hbox hb; have n0_ := Aside0.mk (below_step (by repeat (first | (with_reducible first | exact HB.out | apply below_alloc | apply pw_below_drewN | apply below_drew1) | exact HB.out)) hb); have n1_ := Aside0.mk (hbox); have n2_ := Aside0.mk ((by rw [hg]; exact (below_size (by repeat (first | (with_reducible first | exact HB.out | apply below_alloc | apply pw_below_drewN | apply below_drew1) | exact HB.out))) : w.heap.size ≤ gb200101)); have n3_ := Aside0.mk ((by rw [hg]; exact (below_size (by repeat (first | (with_reducible first | exact HB.out | apply below_alloc | apply pw_below_drewN | apply below_drew1) | exact HB.out))) : w.heap.size ≤ gb200101)); clear HB; have HB := n0_; have BK200101 := n1_; have GW200101 := n2_; have GE200101 := n3_; clear n0_ n1_ n2_ n3_; clear hb hbox hg; have hcz10_0 : w9.cell? ⟨gb200101, 0, none⟩ = some (.int .i64 a0_0) := (blk_cell BK200101.out 0).trans rfl; have hcz10_1 : w9.cell? ⟨gb200101, 1, none⟩ = some (.int .i64 a0_1) := (blk_cell BK200101.out 1).trans rfl; have hcz10_2 : w9.cell? ⟨gb200101, 2, none⟩ = some (.int .i64 a0_2) := (blk_cell BK200101.out 2).trans rfl; have hcz10_3 : w9.cell? ⟨gb200101, 3, none⟩ = some (.slice A0_3 l0_3.length c0_3) := (blk_cell BK200101.out 3).trans rfl; have hfz10_0 := blk_frozen BK200101.out 0; have hfz10_1 := blk_frozen BK200101.out 1; have hfz10_2 := blk_frozen BK200101.out 2; have hfz10_3 := blk_frozen BK200101.out 3) | ((with_reducible refine gate_dst (N := 14) rfl ?_); refine Kd.R_lit (Kd.int .i64) _ 3 ?hg (N := 14) ?hd (xs := ([a1] : List Int)) (inner := [.int .i64 a1]) (ok := fun _ => True) (okp := fun _ => True) ?hr ?hp (fun _ hk => hk) trivial (Below.refl _ _) (Nat.le_refl _) (by simp) ?_; (case hd => rfl); (case hg => rfl); (case hr => first | (go_simp; done) | (go_simp; rfl)); (case hp => exact (Reps.one (show Kd.M (Kd.int .i64) _ _ _ a1 [.int .i64 a1] from rfl) (Reps.none _ _))); intro v200103 w11 ho12 hb hg_ hnew_; clear hg_ hnew_; (first | rw [← Ny200102.out] at ho12 | (simp only [Int.reduceToNat] at ho12; rw [← Ny200102.out] at ho12)); have n0_ := Aside0.mk (Kd.R_lower ho12 (below_size (by repeat (first | (with_reducible first | exact HB.out | apply below_alloc | apply pw_below_drewN | apply below_drew1 | refine below_set ?_ GE200101.out) | exact HB.out)))); have n1_ := Aside0.mk (blk_below (g := gb200101) (o := .cells #[.int .i64 a0_0, .int .i64 a0_1, .int .i64 a0_2, .slice A0_3 l0_3.length c0_3] 32 (0, 0)) (by (with_reducible repeat (first | refine blk_drewN ?_ _ | refine blk_drew ?_ | refine blk_alloc ?_ _)); exact BK200101.out) hb); have n2_ := Aside0.mk (below_step (by repeat (first | (with_reducible first | exact HB.out | apply below_alloc | apply pw_below_drewN | apply below_drew1 | refine below_set ?_ GE200101.out) | exact HB.out)) hb); clear BK200101; clear HB; have HO200104 := n0_; have BK200101 := n1_; have HB := n2_; clear n0_ n1_ n2_; clear hb ho12; obtain ⟨Ao13, co13, eo13⟩ := Kd.R_slice HO200104.out; subst eo13) | ((with_reducible refine gate_callee (f := 134) rfl ?_); refine goesL_ (some 15) rfl rfl Try.func134 (by kernel_rfl) rfl #[.agg #[.int .i64 a0_0, .int .i64 a0_1, .int .i64 a0_2, .slice A0_3 l0_3.length c0_3], .slice Ao13 y200102.length co13] rfl (by (try simp only [List.map_toArray, List.map_cons, List.map_nil]); first | done | rfl | (simp only [List.length_drop, List.length_take]; rfl)) ?_; (with_reducible refine (impl_areSquares.calls k a0_0 a0_1 a0_2 _ _ l0_3 _ _ y200102 true _ ?side1 ?side2 ?side3 ?side4 A3.out).mono ?_); (case side1 => repeat (first | exact (Kd.C_below HR0_3.out HB.out) | (with_reducible refine Kd.C_alloc ?_ _) | (with_reducible refine Kd.C_drewN ?_ _) | (with_reducible refine Kd.C_drew ?_))); (case side2 => exact HC0_3.out); (case side3 => repeat (first | exact (Kd.R_reads' HO200104.out).2.2 | (with_reducible refine Kd.C_alloc ?_ _) | (with_reducible refine Kd.C_drewN ?_ _) | (with_reducible refine Kd.C_drew ?_))); (case side4 => exact (Kd.R_reads' HO200104.out).2.1); rintro e w14 ⟨rfl, hb⟩; refine ⟨_, rfl, ?_⟩; have n0_ := Aside0.mk (Kd.R_below (by (with_reducible repeat (first | apply Kd.R_alloc | apply Kd.R_drewN | apply Kd.R_drew)); exact HO200104.out) hb); have n1_ := Aside0.mk (blk_below (g := gb200101) (o := .cells #[.int .i64 a0_0, .int .i64 a0_1, .int .i64 a0_2, .slice A0_3 l0_3.length c0_3] 32 (0, 0)) (by (with_reducible repeat (first | refine blk_drewN ?_ _ | refine blk_drew ?_ | refine blk_alloc ?_ _)); exact BK200101.out) hb); have n2_ := Aside0.mk (below_step (by repeat (first | (with_reducible first | exact HB.out | apply below_alloc | apply pw_below_drewN | apply below_drew1 | refine below_set ?_ GE200101.out) | exact HB.out)) hb); clear HO200104; clear BK200101; clear HB; have HO200104 := n0_; have BK200101 := n1_; have HB := n2_; clear n0_ n1_ n2_; (try clear hb); (try clear hb2); (try clear hk); (try clear hi); have hcz15_0 : w14.cell? ⟨gb200101, 0, none⟩ = some (.int .i64 a0_0) := (blk_cell BK200101.out 0).trans rfl; have hcz15_1 : w14.cell? ⟨gb200101, 1, none⟩ = some (.int .i64 a0_1) := (blk_cell BK200101.out 1).trans rfl; have hcz15_2 : w14.cell? ⟨gb200101, 2, none⟩ = some (.int .i64 a0_2) := (blk_cell BK200101.out 2).trans rfl; have hcz15_3 : w14.cell? ⟨gb200101, 3, none⟩ = some (.slice A0_3 l0_3.length c0_3) := (blk_cell BK200101.out 3).trans rfl; have hfz15_0 := blk_frozen BK200101.out 0; have hfz15_1 := blk_frozen BK200101.out 1; have hfz15_2 := blk_frozen BK200101.out 2; have hfz15_3 := blk_frozen BK200101.out 3) | ((with_reducible refine gate_callee (f := 130) rfl ?_); refine goesL_ (some 18) rfl rfl Try.func130 (by kernel_rfl) rfl #[.agg #[.int .i64 a0_0, .int .i64 a0_1, .int .i64 a0_2, .slice A0_3 l0_3.length c0_3]] rfl (by (try simp only [List.map_toArray, List.map_cons, List.map_nil]); first | done | rfl | (simp only [List.length_drop, List.length_take]; rfl)) ?_; (with_reducible refine (impl_Board_far.calls k a0_0 a0_1 a0_2 _ _ l0_3 t200106 _ ?side1 ?side2 A5.out).mono ?_); (case side1 => repeat (first | exact (Kd.C_below HR0_3.out HB.out) | (with_reducible refine Kd.C_alloc ?_ _) | (with_reducible refine Kd.C_drewN ?_ _) | (with_reducible refine Kd.C_drew ?_))); (case side2 => exact HC0_3.out); rintro e w16 ⟨v200107, rfl, ho0, hb⟩; refine ⟨_, rfl, ?_⟩; have n0_ := Aside0.mk (Kd.R_elder' (by (with_reducible repeat (first | apply Kd.R_alloc | apply Kd.R_drewN | apply Kd.R_drew)); exact HO200104.out) (Kd.R_base ho0) hb); have n1_ := Aside0.mk (Kd.R_lower (Kd.R_new' ho0 (Kd.R_lt (by (with_reducible repeat (first | apply Kd.R_alloc | apply Kd.R_drewN | apply Kd.R_drew)); exact HO200104.out))) (below_size (by repeat (first | (with_reducible first | exact HB.out | apply below_alloc | apply pw_below_drewN | apply below_drew1 | refine below_set ?_ GE200101.out) | exact HB.out)))); have n2_ := Aside0.mk (blk_below (g := gb200101) (o := .cells #[.int .i64 a0_0, .int .i64 a0_1, .int .i64 a0_2, .slice A0_3 l0_3.length c0_3] 32 (0, 0)) (by (with_reducible repeat (first | refine blk_drewN ?_ _ | refine blk_drew ?_ | refine blk_alloc ?_ _)); exact BK200101.out) hb); have n3_ := Aside0.mk (below_step (by repeat (first | (with_reducible first | exact HB.out | apply below_alloc | apply pw_below_drewN | apply below_drew1 | refine below_set ?_ GE200101.out) | exact HB.out)) hb); clear HO200104; clear BK200101; clear HB; have HO200104 := n0_; have HO200108 := n1_; have BK200101 := n2_; have HB := n3_; clear n0_ n1_ n2_ n3_; (try clear hb); (try clear hb2); (try clear hk); (try clear hi); (try clear ho0); obtain ⟨Ao17, co17, eo17⟩ := Kd.R_slice HO200108.out; subst eo17; have p200109 : 0 ≤ (a1 : Int) := of_decide_eq_true (by first | (with_reducible assumption) | assumption); have q200109 : a1 < (t200106.length : Int) := of_decide_eq_true (by first | (with_reducible assumption) | assumption); obtain ⟨ad200109, e200109, hx200109_0⟩ := Kd.at_int (Kd.R_reads' HO200108.out).2.2 a1 p200109 q200109; cases e200109; replace p200109 := eq_true p200109; replace q200109 := eq_true q200109))
     go_ret2
     exact ⟨by first | rfl | (simp [errW_none, errW_some] <;> rfl) | (simp [*, errW_none, errW_some] <;> rfl), by repeat (first | (with_reducible first | exact HB.out | apply below_alloc | apply pw_below_drewN | apply below_drew1 | refine below_set ?_ GE200101.out) | exact HB.out)⟩
    ·rw [if_neg c8] at H
     have c8b0 : decide ((rd t200106 a1) < 0) = false := decide_eq_false c8
     clear c8
     try clear hji2w
     try clear hji2
     try clear hji19w
     try clear hji19
     try clear hji2w
     try clear hji2
     try clear hji19w
     try clear hji19
     try clear hji4w
     try clear hji4
     try clear hji17w
     try clear hji17
     try clear hji3w
     try clear hji3
     try clear hji3w
     try clear hji3
     try clear hji3w
     try clear hji3
     try clear hji3w
     try clear hji3
     try clear hji15w
     try clear hji15
     obtain ⟨ji18, hji18⟩ : ∃ j_ : Int, (wrap64 (a0_0 + 1)) = j_ := ⟨_, rfl⟩
     replace H : (if 0 ≤ (ji18) then (if (ji18 : Int).toNat ≤ 35184372088832 then ((some (List.replicate (ji18 : Int).toNat 0 : List Int)).bind fun y200110 => (if 0 ≤ a0_0 then (if a0_0 < (y200110.length : Int) then (impl_CountFewest.l0 k a1 t200106 (y200110.set (a0_0 : Int).toNat 1) 1 a0_0 a0_1 a0_2 l0_3) else (none)) else (none))) else (none)) else (none)) = some (r1, r2) := by first | (rw [hji18] at H; exact H) | (simp only [hji18] at H ⊢; exact H)
     (try rw [hji18] at A3)
     (try rw [hji18] at A5)
     have hji18w : (IntKind.i64.wrap (a0_0 + 1)) = ji18 := (i64_w _).trans hji18
     by_cases c19 : 0 ≤ (ji18)
     ·rw [if_pos c19] at H
      have c19b0 := eq_true c19
      have c19b1 : decide (0 ≤ (ji18)) = true := decide_eq_true c19
      clear c19
      by_cases c20 : (ji18 : Int).toNat ≤ 35184372088832
      ·rw [if_pos c20] at H
       have c20b0 := eq_true c20
       have c20b1 : decide ((ji18 : Int).toNat ≤ 35184372088832) = true := decide_eq_true c20
       clear c20
       obtain ⟨y200110, hy200110⟩ : ∃ y_ : List Int, y_ = (List.replicate (ji18 : Int).toNat 0) := ⟨_, rfl⟩
       replace H : (if 0 ≤ a0_0 then (if a0_0 < (y200110.length : Int) then (impl_CountFewest.l0 k a1 t200106 (y200110.set (a0_0 : Int).toNat 1) 1 a0_0 a0_1 a0_2 l0_3) else (none)) else (none)) = some (r1, r2) := by first | (rw [hy200110]; with_reducible exact H) | (have H2_ := (Option.bind_some _ _).symm.trans H; rw [hy200110]; with_reducible exact H2_) | (have H2_ := (Option.bind_some _ _).symm.trans H; with_reducible exact H2_) | with_reducible exact H | (rw [hy200110]; exact H) | exact H
       have Ny200110 := Aside0.mk hy200110
       clear hy200110
       by_cases c21 : 0 ≤ a0_0
       ·rw [if_pos c21] at H
        have c21b0 : decide (0 ≤ a0_0) = true := decide_eq_true c21
        clear c21
        by_cases c22 : a0_0 < (y200110.length : Int)
        ·rw [if_pos c22] at H
         have c22b0 : decide (a0_0 < (y200110.length : Int)) = true := decide_eq_true c22
         clear c22
         obtain ⟨y200113, hy200113⟩ : ∃ y_ : List Int, y_ = (y200110.set (a0_0 : Int).toNat 1) := ⟨_, rfl⟩
         replace H : (impl_CountFewest.l0 k a1 t200106 y200113 1 a0_0 a0_1 a0_2 l0_3) = some (r1, r2) := by first | (rw [hy200113]; with_reducible exact H) | (have H2_ := (Option.bind_some _ _).symm.trans H; rw [hy200113]; with_reducible exact H2_) | (have H2_ := (Option.bind_some _ _).symm.trans H; with_reducible exact H2_) | with_reducible exact H | (rw [hy200113]; exact H) | exact H
         have Ny200113 := Aside0.mk hy200113
         clear hy200113
         have H' := Aside0.mk H
         clear H
         go_enter Try.func100, Try.ntmps100
         go_wp2_with (first | ((with_reducible refine gate_dst (N := 2) rfl ?_); refine box_event ?hg (N := 2) ?hd (cs := #[.int .i64 a0_0, .int .i64 a0_1, .int .i64 a0_2, .slice A0_3 l0_3.length c0_3]) (t := 32) ?hr ?_; (case hd => rfl); (case hg => rfl); (case hr => first | (go_simp; done) | (go_simp; rfl)); intro gb200101 hg w24 hbox hb; have n0_ := Aside0.mk (below_step (by repeat (first | (with_reducible first | exact HB.out | apply below_alloc | apply pw_below_drewN | apply below_drew1) | exact HB.out)) hb); have n1_ := Aside0.mk (hbox); have n2_ := Aside0.mk ((by rw [hg]; exact (below_size (by repeat (first | (with_reducible first | exact HB.out | apply below_alloc | apply pw_below_drewN | apply below_drew1) | exact HB.out))) : w.heap.size ≤ gb200101)); have n3_ := Aside0.mk ((by rw [hg]; exact (below_size (by repeat (first | (with_reducible first | exact HB.out | apply below_alloc | apply pw_below_drewN | apply below_drew1) | exact HB.out))) : w.heap.size ≤ gb200101)); clear HB; have HB := n0_; have BK200101 := n1_; have GW200101 := n2_; have GE200101 := n3_; clear n0_ n1_ n2_ n3_; clear hb hbox hg; have hcz25_0 : w24.cell? ⟨gb200101, 0, none⟩ = some (.int .i64 a0_0) := (blk_cell BK200101.out 0).trans rfl; have hcz25_1 : w24.cell? ⟨gb200101, 1, none⟩ = some (.int .i64 a0_1) := (blk_cell BK200101.out 1).trans rfl; have hcz25_2 : w24.cell? ⟨gb200101, 2, none⟩ = some (.int .i64 a0_2) := (blk_cell BK200101.out 2).trans rfl; have hcz25_3 : w24.cell? ⟨gb200101, 3, none⟩ = some (.slice A0_3 l0_3.length c0_3) := (blk_cell BK200101.out 3).trans rfl; have hfz25_0 := blk_frozen BK200101.out 0; have hfz25_1 := blk_frozen BK200101.out 1; have hfz25_2 := blk_frozen BK200101.out 2; have hfz25_3 := blk_frozen BK200101.out 3) | ((with_reducible refine gate_dst (N := 14) rfl ?_); refine Kd.R_lit (Kd.int .i64) _ 3 ?hg (N := 14) ?hd (xs := ([a1] : List Int)) (inner := [.int .i64 a1]) (ok := fun _ => True) (okp := fun _ => True) ?hr ?hp (fun _ hk => hk) trivial (Below.refl _ _) (Nat.le_refl _) (by simp) ?_; (case hd => rfl); (case hg => rfl); (case hr => first | (go_simp; done) | (go_simp; rfl)); (case hp => exact (Reps.one (show Kd.M (Kd.int .i64) _ _ _ a1 [.int .i64 a1] from rfl) (Reps.none _ _))); intro v200103 w26 ho27 hb hg_ hnew_; clear hg_ hnew_; (first | rw [← Ny200102.out] at ho27 | (simp only [Int.reduceToNat] at ho27; rw [← Ny200102.out] at ho27)); have n0_ := Aside0.mk (Kd.R_lower ho27 (below_size (by repeat (first | (with_reducible first | exact HB.out | apply below_alloc | apply pw_below_drewN | apply below_drew1 | refine below_set ?_ GE200101.out) | exact HB.out)))); have n1_ := Aside0.mk (blk_below (g := gb200101) (o := .cells #[.int .i64 a0_0, .int .i64 a0_1, .int .i64 a0_2, .slice A0_3 l0_3.length c0_3] 32 (0, 0)) (by (with_reducible repeat (first | refine blk_drewN ?_ _ | refine blk_drew ?_ | refine blk_alloc ?_ _)); exact BK200101.out) hb); have n2_ := Aside0.mk (below_step (by repeat (first | (with_reducible first | exact HB.out | apply below_alloc | apply pw_below_drewN | apply below_drew1 | refine below_set ?_ GE200101.out) | exact HB.out)) hb); clear BK200101; clear HB; have HO200104 := n0_; have BK200101 := n1_; have HB := n2_; clear n0_ n1_ n2_; clear hb ho27; obtain ⟨Ao28, co28, eo28⟩ := Kd.R_slice HO200104.out; subst eo28) | ((with_reducible refine gate_callee (f := 134) rfl ?_); refine goesL_ (some 15) rfl rfl Try.func134 (by kernel_rfl) rfl #[.agg #[.int .i64 a0_0, .int .i64 a0_1, .int .i64 a0_2, .slice A0_3 l0_3.length c0_3], .slice Ao28 y200102.length co28] rfl (by (try simp only [List.map_toArray, List.map_cons, List.map_nil]); first | done | rfl | (simp only [List.length_drop, List.length_take]; rfl)) ?_; (with_reducible refine (impl_areSquares.calls k a0_0 a0_1 a0_2 _ _ l0_3 _ _ y200102 true _ ?side1 ?side2 ?side3 ?side4 A3.out).mono ?_); (case side1 => repeat (first | exact (Kd.C_below HR0_3.out HB.out) | (with_reducible refine Kd.C_alloc ?_ _) | (with_reducible refine Kd.C_drewN ?_ _) | (with_reducible refine Kd.C_drew ?_))); (case side2 => exact HC0_3.out); (case side3 => repeat (first | exact (Kd.R_reads' HO200104.out).2.2 | (with_reducible refine Kd.C_alloc ?_ _) | (with_reducible refine Kd.C_drewN ?_ _) | (with_reducible refine Kd.C_drew ?_))); (case side4 => exact (Kd.R_reads' HO200104.out).2.1); rintro e w29 ⟨rfl, hb⟩; refine ⟨_, rfl, ?_⟩; have n0_ := Aside0.mk (Kd.R_below (by (with_reducible repeat (first | apply Kd.R_alloc | apply Kd.R_drewN | apply Kd.R_drew)); exact HO200104.out) hb); have n1_ := Aside0.mk (blk_below (g := gb200101) (o := .cells #[.int .i64 a0_0, .int .i64 a0_1, .int .i64 a0_2, .slice A0_3 l0_3.length c0_3] 32 (0, 0)) (by (with_reducible repeat (first | refine blk_drewN ?_ _ | refine blk_drew ?_ | refine blk_alloc ?_ _)); exact BK200101.out) hb); have n2_ := Aside0.mk (below_step (by repeat (first | (with_reducible first | exact HB.out | apply below_alloc | apply pw_below_drewN | apply below_drew1 | refine below_set ?_ GE200101.out) | exact HB.out)) hb); clear HO200104; clear BK200101; clear HB; have HO200104 := n0_; have BK200101 := n1_; have HB := n2_; clear n0_ n1_ n2_; (try clear hb); (try clear hb2); (try clear hk); (try clear hi); have hcz30_0 : w29.cell? ⟨gb200101, 0, none⟩ = some (.int .i64 a0_0) := (blk_cell BK200101.out 0).trans rfl; have hcz30_1 : w29.cell? ⟨gb200101, 1, none⟩ = some (.int .i64 a0_1) := (blk_cell BK200101.out 1).trans rfl; have hcz30_2 : w29.cell? ⟨gb200101, 2, none⟩ = some (.int .i64 a0_2) := (blk_cell BK200101.out 2).trans rfl; have hcz30_3 : w29.cell? ⟨gb200101, 3, none⟩ = some (.slice A0_3 l0_3.length c0_3) := (blk_cell BK200101.out 3).trans rfl; have hfz30_0 := blk_frozen BK200101.out 0; have hfz30_1 := blk_frozen BK200101.out 1; have hfz30_2 := blk_frozen BK200101.out 2; have hfz30_3 := blk_frozen BK200101.out 3) | ((with_reducible refine gate_callee (f := 130) rfl ?_); refine goesL_ (some 18) rfl rfl Try.func130 (by kernel_rfl) rfl #[.agg #[.int .i64 a0_0, .int .i64 a0_1, .int .i64 a0_2, .slice A0_3 l0_3.length c0_3]] rfl (by (try simp only [List.map_toArray, List.map_cons, List.map_nil]); first | done | rfl | (simp only [List.length_drop, List.length_take]; rfl)) ?_; (with_reducible refine (impl_Board_far.calls k a0_0 a0_1 a0_2 _ _ l0_3 t200106 _ ?side1 ?side2 A5.out).mono ?_); (case side1 => repeat (first | exact (Kd.C_below HR0_3.out HB.out) | (with_reducible refine Kd.C_alloc ?_ _) | (with_reducible refine Kd.C_drewN ?_ _) | (with_reducible refine Kd.C_drew ?_))); (case side2 => exact HC0_3.out); rintro e w31 ⟨v200107, rfl, ho0, hb⟩; refine ⟨_, rfl, ?_⟩; have n0_ := Aside0.mk (Kd.R_elder' (by (with_reducible repeat (first | apply Kd.R_alloc | apply Kd.R_drewN | apply Kd.R_drew)); exact HO200104.out) (Kd.R_base ho0) hb); have n1_ := Aside0.mk (Kd.R_lower (Kd.R_new' ho0 (Kd.R_lt (by (with_reducible repeat (first | apply Kd.R_alloc | apply Kd.R_drewN | apply Kd.R_drew)); exact HO200104.out))) (below_size (by repeat (first | (with_reducible first | exact HB.out | apply below_alloc | apply pw_below_drewN | apply below_drew1 | refine below_set ?_ GE200101.out) | exact HB.out)))); have n2_ := Aside0.mk (blk_below (g := gb200101) (o := .cells #[.int .i64 a0_0, .int .i64 a0_1, .int .i64 a0_2, .slice A0_3 l0_3.length c0_3] 32 (0, 0)) (by (with_reducible repeat (first | refine blk_drewN ?_ _ | refine blk_drew ?_ | refine blk_alloc ?_ _)); exact BK200101.out) hb); have n3_ := Aside0.mk (below_step (by repeat (first | (with_reducible first | exact HB.out | apply below_alloc | apply pw_below_drewN | apply below_drew1 | refine below_set ?_ GE200101.out) | exact HB.out)) hb); clear HO200104; clear BK200101; clear HB; have HO200104 := n0_; have HO200108 := n1_; have BK200101 := n2_; have HB := n3_; clear n0_ n1_ n2_ n3_; (try clear hb); (try clear hb2); (try clear hk); (try clear hi); (try clear ho0); obtain ⟨Ao32, co32, eo32⟩ := Kd.R_slice HO200108.out; subst eo32; have p200109 : 0 ≤ (a1 : Int) := of_decide_eq_true (by first | (with_reducible assumption) | assumption); have q200109 : a1 < (t200106.length : Int) := of_decide_eq_true (by first | (with_reducible assumption) | assumption); obtain ⟨ad200109, e200109, hx200109_0⟩ := Kd.at_int (Kd.R_reads' HO200108.out).2.2 a1 p200109 q200109; cases e200109; replace p200109 := eq_true p200109; replace q200109 := eq_true q200109; have hcz33_0 : w31.cell? ⟨gb200101, 0, none⟩ = some (.int .i64 a0_0) := (blk_cell BK200101.out 0).trans rfl; have hcz33_1 : w31.cell? ⟨gb200101, 1, none⟩ = some (.int .i64 a0_1) := (blk_cell BK200101.out 1).trans rfl; have hcz33_2 : w31.cell? ⟨gb200101, 2, none⟩ = some (.int .i64 a0_2) := (blk_cell BK200101.out 2).trans rfl; have hcz33_3 : w31.cell? ⟨gb200101, 3, none⟩ = some (.slice A0_3 l0_3.length c0_3) := (blk_cell BK200101.out 3).trans rfl; have hfz33_0 := blk_frozen BK200101.out 0; have hfz33_1 := blk_frozen BK200101.out 1; have hfz33_2 := blk_frozen BK200101.out 2; have hfz33_3 := blk_frozen BK200101.out 3) | ((with_reducible refine gate_dst (N := 27) rfl ?_); refine Kd.R_make (Kd.int .i64) _ 3 rfl (N := 27) rfl 58 _ _ rfl ji18 rfl rfl Try.underlying58 (.int .i64 0) 8 info3 rfl (by decide) (by omega) 0 (ok := fun _ => True) (okp := fun _ => True) rfl (fun _ hk => hk) trivial (of_decide_eq_true (by first | (with_reducible assumption) | assumption)) (Nat.le_trans (Nat.mul_le_mul_right _ (of_decide_eq_true (by first | (with_reducible assumption) | assumption) : ji18.toNat ≤ 35184372088832)) (by omega)) (Below.refl _ _) (Nat.le_refl _) ?_; intro v200111 w34 ho35 hb hg_ hnew_; clear hg_ hnew_; (first | rw [← Ny200110.out] at ho35 | (simp only [Int.reduceToNat] at ho35; rw [← Ny200110.out] at ho35)); have n0_ := Aside0.mk (Kd.R_elder' (by (with_reducible repeat (first | apply Kd.R_alloc | apply Kd.R_drewN | apply Kd.R_drew)); exact HO200104.out) (Kd.R_base ho35) hb); have n1_ := Aside0.mk (Kd.R_elder' (by (with_reducible repeat (first | apply Kd.R_alloc | apply Kd.R_drewN | apply Kd.R_drew)); exact HO200108.out) (Kd.R_base ho35) hb); have n2_ := Aside0.mk (Kd.R_lower (Kd.R_new' (Kd.R_new' ho35 (Kd.R_lt (by (with_reducible repeat (first | apply Kd.R_alloc | apply Kd.R_drewN | apply Kd.R_drew)); exact HO200104.out))) (Kd.R_lt (by (with_reducible repeat (first | apply Kd.R_alloc | apply Kd.R_drewN | apply Kd.R_drew)); exact HO200108.out))) (below_size (by repeat (first | (with_reducible first | exact HB.out | apply below_alloc | apply pw_below_drewN | apply below_drew1 | refine below_set ?_ GE200101.out) | exact HB.out)))); have n3_ := Aside0.mk (blk_below (g := gb200101) (o := .cells #[.int .i64 a0_0, .int .i64 a0_1, .int .i64 a0_2, .slice A0_3 l0_3.length c0_3] 32 (0, 0)) (by (with_reducible repeat (first | refine blk_drewN ?_ _ | refine blk_drew ?_ | refine blk_alloc ?_ _)); exact BK200101.out) hb); have n4_ := Aside0.mk (below_step (by repeat (first | (with_reducible first | exact HB.out | apply below_alloc | apply pw_below_drewN | apply below_drew1 | refine below_set ?_ GE200101.out) | exact HB.out)) hb); clear HO200104; clear HO200108; clear BK200101; clear HB; have HO200104 := n0_; have HO200108 := n1_; have HO200112 := n2_; have BK200101 := n3_; have HB := n4_; clear n0_ n1_ n2_ n3_ n4_; clear hb ho35; have hcz36_0 : w34.cell? ⟨gb200101, 0, none⟩ = some (.int .i64 a0_0) := (blk_cell BK200101.out 0).trans rfl; have hcz36_1 : w34.cell? ⟨gb200101, 1, none⟩ = some (.int .i64 a0_1) := (blk_cell BK200101.out 1).trans rfl; have hcz36_2 : w34.cell? ⟨gb200101, 2, none⟩ = some (.int .i64 a0_2) := (blk_cell BK200101.out 2).trans rfl; have hcz36_3 : w34.cell? ⟨gb200101, 3, none⟩ = some (.slice A0_3 l0_3.length c0_3) := (blk_cell BK200101.out 3).trans rfl; have hfz36_0 := blk_frozen BK200101.out 0; have hfz36_1 := blk_frozen BK200101.out 1; have hfz36_2 := blk_frozen BK200101.out 2; have hfz36_3 := blk_frozen BK200101.out 3; have p23 : 0 ≤ (a0_0 : Int) := of_decide_eq_true (by first | (with_reducible assumption) | assumption); have q23 : (a0_0 : Int) < ((y200110.length : Int) : Int) := of_decide_eq_true (by first | (with_reducible assumption) | assumption); obtain ⟨go23, co23, eo23, gb23, gl23, cl23, HG23⟩ := Kd.R_form HO200112.out (by omega); (first | cases eo23 | (injection eo23 with ea_ en_ ec_; (first | subst ea_ | (injection ea_ with ea_; subst ea_)); subst ec_; clear en_)); have GB23 := Aside0.mk gb23; have GG23 := Aside0.mk HG23; clear gb23 gl23 HG23; obtain ⟨hx23_0, hf23_0⟩ := Kd.R_celln 0 HO200112.out (a0_0 : Int) p23 q23; replace p23 := eq_true p23; replace q23 := eq_true q23; have n_ := Aside0.mk (Kd.R_mono (ok' := (fun k_ => some k_ ≠ (.slice Ao28 y200102.length co28 : Value).ownBlock ∧ some k_ ≠ (.slice (some ad200109) t200106.length co32 : Value).ownBlock)) HO200112.out (fun k_ hk => ⟨hk.1.2, hk.2⟩)); clear HO200112; have HO200112 := n_; clear n_; obtain ⟨hy37_, hz37_⟩ := Kd.R_celln 0 HO200112.out (a0_0 : Int) (of_decide_eq_true (by first | (with_reducible assumption) | assumption)) (of_decide_eq_true (by first | (with_reducible assumption) | assumption)); have HP37 := Kd.R_putg HO200112.out (a0_0 : Int) 1) | ((with_reducible refine gate_store (t := 3) (p := 31) rfl ?_); refine store_event (t := 3) (p := 31) (v := ?vo_w38) (w1 := (w34.setCell ⟨go23, (a0_0 : Int).toNat, none⟩ (.int .i64 1))) ?hg ?ho ?hn ?hr ?_; (case ho => rfl); (case hg => rfl); (case hn => rfl); (case hr => first | (go_simp; done) | (go_simp; rfl)); intro w38 hw; have hg : w34.grownBy w38 (some go23) := (by rw [hw]; exact HP37.2); have hp_ : Kd.R (Kd.int .i64) 3 w38 w.heap.size (fun k_ => some k_ ≠ (.slice Ao28 y200102.length co28 : Value).ownBlock ∧ some k_ ≠ (.slice (some ad200109) t200106.length co32 : Value).ownBlock) (.slice (some ⟨go23, 0, none⟩) y200110.length co23) y200113 := (by rw [hw, Ny200113.out]; exact HP37.1); clear HP37; have n0_ := Aside0.mk (blk_grown (g := gb200101) (o := .cells #[.int .i64 a0_0, .int .i64 a0_1, .int .i64 a0_2, .slice A0_3 l0_3.length c0_3] 32 (0, 0)) (by (with_reducible repeat (first | refine blk_drewN ?_ _ | refine blk_drew ?_ | refine blk_alloc ?_ _)); exact BK200101.out) hg (Kd.R_ne HO200112.out BK200101.out (by decide))); have n1_ := Aside0.mk (Kd.R_after (v := (.slice (some ⟨go23, 0, none⟩) y200110.length co23)) (v1 := (.slice (some ⟨go23, 0, none⟩) y200110.length co23)) (ok := (fun k_ => some k_ ≠ (.slice (some ad200109) t200106.length co32 : Value).ownBlock)) (by (with_reducible repeat (first | apply Kd.R_alloc | apply Kd.R_drewN | apply Kd.R_drew)); exact Kd.R_mono HO200104.out (fun _ hk => ⟨hk.1.2, hk.2⟩)) hg (.inl rfl)); have n2_ := Aside0.mk (Kd.R_after (v := (.slice (some ⟨go23, 0, none⟩) y200110.length co23)) (v1 := (.slice (some ⟨go23, 0, none⟩) y200110.length co23)) (ok := (fun k_ => some k_ ≠ (.slice Ao28 y200102.length co28 : Value).ownBlock)) (by (with_reducible repeat (first | apply Kd.R_alloc | apply Kd.R_drewN | apply Kd.R_drew)); exact Kd.R_mono HO200108.out (fun _ hk => ⟨hk.1.2, hk.2⟩)) hg (.inl rfl)); have n3_ := Aside0.mk (hp_); have n4_ := Aside0.mk ((by rw [hw]; exact below_set (HB.out) GB23.out : Below w.heap.size w w38)); clear BK200101; clear HO200104; clear HO200108; clear HO200112; clear HB; have BK200101 := n0_; have HO200104 := n1_; have HO200108 := n2_; have HO200112 := n3_; have HB := n4_; clear n0_ n1_ n2_ n3_ n4_; clear hg hw hp_))
         go_loopg [8] k (fun kq v8 w' => ∃ (x7_1 : List Int) (x8_1 : Int), v8 = .int .i64 x8_1 ∧ Aside0 (impl_CountFewest.l0 kq a1 t200106 x7_1 x8_1 a0_0 a0_1 a0_2 l0_3 = some (r1, r2)) ∧ Aside0 (kq ≤ k) ∧ Aside0 (Kd.R (Kd.int .i64) 3 w' w.heap.size (fun k_ => some k_ ≠ ((.slice (some ⟨go23, 0, none⟩) y200110.length co23) : Value).ownBlock) (.slice (some ad200109) t200106.length co32) t200106) ∧ Aside0 (Kd.R (Kd.int .i64) 3 w' w.heap.size (fun k_ => some k_ ≠ ((.slice (some ad200109) t200106.length co32) : Value).ownBlock) (.slice (some ⟨go23, 0, none⟩) y200110.length co23) x7_1) ∧ Aside0 (w'.heap[gb200101]? = some (.cells #[.int .i64 a0_0, .int .i64 a0_1, .int .i64 a0_2, (.slice A0_3 l0_3.length c0_3)] 32 (0, 0))) ∧ Aside0 (Below w.heap.size w w'))
         case atStart => exact ⟨(y200113), (1), (by first | rfl | (simp; done) | (simp [*]; done)), H', ⟨Nat.le_refl _⟩, ⟨by (with_reducible repeat (first | apply Kd.R_alloc | apply Kd.R_drewN | apply Kd.R_drew)); exact Kd.R_mono HO200108.out (fun _ hk => hk.2)⟩, ⟨by (with_reducible repeat (first | apply Kd.R_alloc | apply Kd.R_drewN | apply Kd.R_drew)); exact Kd.R_mono HO200112.out (fun _ hk => hk.2)⟩, ⟨by (with_reducible repeat (first | refine blk_drewN ?_ _ | refine blk_drew ?_ | refine blk_alloc ?_ _)); exact BK200101.out⟩, ⟨by repeat (first | (with_reducible first | exact HB.out | apply below_alloc | apply pw_below_drewN | apply below_drew1 | refine below_set ?_ GE200101.out) | exact HB.out)⟩⟩
         case round =>
          clear H'
          try clear c1
          try clear c2
          try clear p2
          try clear q2
          try clear hx2
          try clear hf2
          try clear c4
          try clear c6
          try clear c6b0
          try clear p6
          try clear c7
          try clear c7b0
          try clear c8
          try clear c8b0
          try clear c10
          try clear c13
          try clear c19
          try clear c19b0
          try clear c19b1
          try clear c20
          try clear c20b0
          try clear c20b1
          try clear p20
          try clear q20
          try clear hx20
          try clear c21
          try clear c21b0
          try clear c22
          try clear c22b0
          try clear p23
          try clear q23
          try clear hx23
          try clear hf23
          try clear hcz10_0
          try clear hcz10_1
          try clear hcz10_2
          try clear hcz10_3
          try clear hcz15_0
          try clear hcz15_1
          try clear hcz15_2
          try clear hcz15_3
          try clear hcz25_0
          try clear hcz25_1
          try clear hcz25_2
          try clear hcz25_3
          try clear hcz30_0
          try clear hcz30_1
          try clear hcz30_2
          try clear hcz30_3
          try clear hcz33_0
          try clear hcz33_1
          try clear hcz33_2
          try clear hcz33_3
          try clear hcz36_0
          try clear hcz36_1
          try clear hcz36_2
          try clear hcz36_3
          try clear hfz10_0
          try clear hfz10_1
          try clear hfz10_2
          try clear hfz10_3
          try clear hfz15_0
          try clear hfz15_1
          try clear hfz15_2
          try clear hfz15_3
          try clear hfz25_0
          try clear hfz25_1
          try clear hfz25_2
          try clear hfz25_3
          try clear hfz30_0
          try clear hfz30_1
          try clear hfz30_2
          try clear hfz30_3
          try clear hfz33_0
          try clear hfz33_1
          try clear hfz33_2
          try clear hfz33_3
          try clear hfz36_0
          try clear hfz36_1
          try clear hfz36_2
          try clear hfz36_3
          try clear hx200109_0
          try clear hx23_0
          try clear p200109
          try clear p23
          try clear q200109
          try clear q23
          obtain ⟨x7_1, x8_1, rfl, HA, HK1, HO_6, HO_7, BK200101, HB⟩ := hrel
          have hl7_1 := (Kd.R_reads' HO_7.out).1
          rw [hl7_1] at HO_7
          (try simp only [hl7_1])
          (try simp only [hl7_1] at BK200101)
          (try simp only [hl7_1] at HO_6)
          cases gk with
          | zero => exact absurd HA.out (by simp [impl_CountFewest.l0])
          | succ k1 =>
           have H := HA.out
           clear HA
           simp only [impl_CountFewest.l0] at H
           by_cases c39 : 0 ≤ a1
           ·rw [if_pos c39] at H
            have c39b0 : decide (0 ≤ a1) = true := decide_eq_true c39
            clear c39
            by_cases c40 : a1 < (t200106.length : Int)
            ·rw [if_pos c40] at H
             have c40b0 : decide (a1 < (t200106.length : Int)) = true := decide_eq_true c40
             (try (have c40b0z := c40b0; rw [hl7_1] at c40b0z))
             clear c40
             by_cases c41 : x8_1 ≤ (rd t200106 a1)
             ·rw [if_pos c41] at H
              have c41b0 : decide (x8_1 ≤ (rd t200106 a1)) = true := decide_eq_true c41
              clear c41
              have H' := Aside0.mk H
              clear H
              have p200114 : 0 ≤ (a1 : Int) := of_decide_eq_true (by first | (with_reducible assumption) | assumption)
              have q200114 : a1 < (t200106.length : Int) := of_decide_eq_true (by first | (with_reducible assumption) | assumption)
              obtain ⟨ad200114, e200114, hx200114_0⟩ := Kd.at_int (Kd.R_reads' HO_6.out).2.2 a1 p200114 q200114
              obtain rfl : ad200109 = ad200114 := (by injection e200114)
              replace p200114 := eq_true p200114
              replace q200114 := eq_true q200114
              have hcz42_0 : wr.cell? ⟨gb200101, 0, none⟩ = some (.int .i64 a0_0) := (blk_cell BK200101.out 0).trans rfl
              have hcz42_1 : wr.cell? ⟨gb200101, 1, none⟩ = some (.int .i64 a0_1) := (blk_cell BK200101.out 1).trans rfl
              have hcz42_2 : wr.cell? ⟨gb200101, 2, none⟩ = some (.int .i64 a0_2) := (blk_cell BK200101.out 2).trans rfl
              have hcz42_3 : wr.cell? ⟨gb200101, 3, none⟩ = some (.slice A0_3 l0_3.length c0_3) := (blk_cell BK200101.out 3).trans rfl
              have hfz42_0 := blk_frozen BK200101.out 0
              have hfz42_1 := blk_frozen BK200101.out 1
              have hfz42_2 := blk_frozen BK200101.out 2
              have hfz42_3 := blk_frozen BK200101.out 3
              go_wp2
              go_loopg [42] k1 (fun kq v42 w' => ∃ (x7_2 : List Int) (x42_2 : Int), v42 = .int .i64 x42_2 ∧ Aside0 (impl_CountFewest.l1 kq a1 t200106 x7_2 x8_1 a0_0 x42_2 a0_0 a0_1 a0_2 l0_3 = some (r1, r2)) ∧ Aside0 (kq ≤ k1) ∧ Aside0 (Kd.R (Kd.int .i64) 3 w' w.heap.size (fun k_ => some k_ ≠ ((.slice (some ⟨go23, 0, none⟩) x7_1.length co23) : Value).ownBlock) (.slice (some ad200109) t200106.length co32) t200106) ∧ Aside0 (Kd.R (Kd.int .i64) 3 w' w.heap.size (fun k_ => some k_ ≠ ((.slice (some ad200109) t200106.length co32) : Value).ownBlock) (.slice (some ⟨go23, 0, none⟩) x7_1.length co23) x7_2) ∧ Aside0 (w'.heap[gb200101]? = some (.cells #[.int .i64 a0_0, .int .i64 a0_1, .int .i64 a0_2, (.slice A0_3 l0_3.length c0_3)] 32 (0, 0))) ∧ Aside0 (Below w.heap.size w w'))
              case atStart => exact ⟨(x7_1), (0), (by first | rfl | (simp; done) | (simp [*]; done)), H', ⟨Nat.le_refl _⟩, ⟨by (try simp only [hl7_1]); (with_reducible repeat (first | apply Kd.R_alloc | apply Kd.R_drewN | apply Kd.R_drew)); exact HO_6.out⟩, ⟨by (try simp only [hl7_1]); (with_reducible repeat (first | apply Kd.R_alloc | apply Kd.R_drewN | apply Kd.R_drew)); exact HO_7.out⟩, ⟨by (try simp only [hl7_1]); (with_reducible repeat (first | refine blk_drewN ?_ _ | refine blk_drew ?_ | refine blk_alloc ?_ _)); exact BK200101.out⟩, ⟨by repeat (first | (with_reducible first | exact HB.out | apply below_alloc | apply pw_below_drewN | apply below_drew1 | refine below_set ?_ GE200101.out) | exact HB.out)⟩⟩
              case round =>
               clear H'
               try clear c1
               try clear c2
               try clear p2
               try clear q2
               try clear hx2
               try clear hf2
               try clear c3
               try clear c4
               try clear c6
               try clear c6b0
               try clear p6
               try clear c7
               try clear c7b0
               try clear c8
               try clear c8b0
               try clear c10
               try clear c13
               try clear c19
               try clear c19b0
               try clear c19b1
               try clear c20
               try clear c20b0
               try clear c20b1
               try clear p20
               try clear q20
               try clear hx20
               try clear c21
               try clear c21b0
               try clear c22
               try clear c22b0
               try clear p23
               try clear q23
               try clear hx23
               try clear hf23
               try clear c39
               try clear c39b0
               try clear c40
               try clear c40b0
               try clear c41
               try clear c41b0
               try clear hcz10_0
               try clear hcz10_1
               try clear hcz10_2
               try clear hcz10_3
               try clear hcz15_0
               try clear hcz15_1
               try clear hcz15_2
               try clear hcz15_3
               try clear hcz25_0
               try clear hcz25_1
               try clear hcz25_2
               try clear hcz25_3
               try clear hcz30_0
               try clear hcz30_1
               try clear hcz30_2
               try clear hcz30_3
               try clear hcz33_0
               try clear hcz33_1
               try clear hcz33_2
               try clear hcz33_3
               try clear hcz36_0
               try clear hcz36_1
               try clear hcz36_2
               try clear hcz36_3
               try clear hcz42_0
               try clear hcz42_1
               try clear hcz42_2
               try clear hcz42_3
               try clear hfz10_0
               try clear hfz10_1
               try clear hfz10_2
               try clear hfz10_3
               try clear hfz15_0
               try clear hfz15_1
               try clear hfz15_2
               try clear hfz15_3
               try clear hfz25_0
               try clear hfz25_1
               try clear hfz25_2
               try clear hfz25_3
               try clear hfz30_0
               try clear hfz30_1
               try clear hfz30_2
               try clear hfz30_3
               try clear hfz33_0
               try clear hfz33_1
               try clear hfz33_2
               try clear hfz33_3
               try clear hfz36_0
               try clear hfz36_1
               try clear hfz36_2
               try clear hfz36_3
               try clear hfz42_0
               try clear hfz42_1
               try clear hfz42_2
               try clear hfz42_3
               try clear hx200109_0
               try clear hx200114_0
               try clear hx23_0
               try clear p2
               try clear p20
               try clear p200109
               try clear p200114
               try clear p23
               try clear p6
               try clear q2
               try clear q20
               try clear q200109
               try clear q200114
               try clear q23
               obtain ⟨x7_2, x42_2, rfl, HA, HK2, HO_6, HO_7, BK200101, HB⟩ := hrel
               have hl7_2 := (Kd.R_reads' HO_7.out).1
               rw [hl7_2] at HO_7
               (try simp only [hl7_2])
               (try simp only [hl7_2] at BK200101)
               (try simp only [hl7_2] at HO_6)
               cases gk with
               | zero => exact absurd HA.out (by simp [impl_CountFewest.l1])
               | succ k2 =>
                have H := HA.out
                clear HA
                simp only [impl_CountFewest.l1] at H
                by_cases c43 : x42_2 < a0_0
                ·rw [if_pos c43] at H
                 have c43b0 : decide (x42_2 < a0_0) = true := decide_eq_true c43
                 clear c43
                 by_cases c44 : 0 ≤ x42_2
                 ·rw [if_pos c44] at H
                  have c44b0 : decide (0 ≤ x42_2) = true := decide_eq_true c44
                  clear c44
                  by_cases c45 : x42_2 < (t200106.length : Int)
                  ·rw [if_pos c45] at H
                   have c45b0 : decide (x42_2 < (t200106.length : Int)) = true := decide_eq_true c45
                   (try (have c45b0z := c45b0; rw [hl7_1] at c45b0z))
                   (try (have c45b0z := c45b0; rw [hl7_2] at c45b0z))
                   clear c45
                   by_cases c46 : (rd t200106 x42_2) = x8_1
                   ·rw [if_pos c46] at H
                    have c46b0 : ((rd t200106 x42_2) == x8_1) = true := beq_iff_eq.mpr c46
                    have c46b1 : ((rd t200106 x42_2) != x8_1) = false := bne_eq_false_iff_eq.mpr c46
                    clear c46
                    replace H := Option.bind_eq_some_iff.mp H
                    obtain ⟨t200118, A470, H⟩ := H
                    replace H : (impl_CountFewest.l2 k2 a1 t200106 x7_2 x8_1 x42_2 a0_0 x42_2 t200118 (t200118.length : Int) 0 a0_0 a0_1 a0_2 l0_3) = some (r1, r2) := H
                    have A47 := Aside0.mk A470
                    clear A470
                    have H' := Aside0.mk H
                    clear H
                    have p200117 : 0 ≤ (x42_2 : Int) := of_decide_eq_true (by first | (with_reducible assumption) | assumption)
                    have q200117 : x42_2 < (t200106.length : Int) := of_decide_eq_true (by first | (with_reducible assumption) | assumption)
                    obtain ⟨ad200117, e200117, hx200117_0⟩ := Kd.at_int (Kd.R_reads' HO_6.out).2.2 x42_2 p200117 q200117
                    obtain rfl : ad200109 = ad200117 := (by injection e200117)
                    replace p200117 := eq_true p200117
                    replace q200117 := eq_true q200117
                    have hcz48_0 : wr.cell? ⟨gb200101, 0, none⟩ = some (.int .i64 a0_0) := (blk_cell BK200101.out 0).trans rfl
                    have hcz48_1 : wr.cell? ⟨gb200101, 1, none⟩ = some (.int .i64 a0_1) := (blk_cell BK200101.out 1).trans rfl
                    have hcz48_2 : wr.cell? ⟨gb200101, 2, none⟩ = some (.int .i64 a0_2) := (blk_cell BK200101.out 2).trans rfl
                    have hcz48_3 : wr.cell? ⟨gb200101, 3, none⟩ = some (.slice A0_3 l0_3.length c0_3) := (blk_cell BK200101.out 3).trans rfl
                    have hfz48_0 := blk_frozen BK200101.out 0
                    have hfz48_1 := blk_frozen BK200101.out 1
                    have hfz48_2 := blk_frozen BK200101.out 2
                    have hfz48_3 := blk_frozen BK200101.out 3
                    go_wp2_with (first | ((with_reducible refine gate_callee (f := 145) rfl ?_); refine goesL_ (some 53) rfl rfl Try.func145 (by kernel_rfl) rfl #[.agg #[.int .i64 a0_0, .int .i64 a0_1, .int .i64 a0_2, .slice A0_3 l0_3.length c0_3], .int .i64 x42_2] rfl (by (try simp only [List.map_toArray, List.map_cons, List.map_nil]); first | done | rfl | (simp only [List.length_drop, List.length_take]; rfl)) ?_; (with_reducible refine (impl_Board_landings.calls k2 a0_0 a0_1 a0_2 _ _ l0_3 x42_2 t200118 _ ?side1 ?side2 A47.out).mono ?_); (case side1 => repeat (first | exact (Kd.C_below HR0_3.out HB.out) | (with_reducible refine Kd.C_alloc ?_ _) | (with_reducible refine Kd.C_drewN ?_ _) | (with_reducible refine Kd.C_drew ?_))); (case side2 => exact HC0_3.out); rintro e w49 ⟨v200119, rfl, ho0, hb⟩; refine ⟨_, rfl, ?_⟩; have n0_ := Aside0.mk (Kd.R_elder' (by (with_reducible repeat (first | apply Kd.R_alloc | apply Kd.R_drewN | apply Kd.R_drew)); exact HO_6.out) (Kd.R_base ho0) hb); have n1_ := Aside0.mk (Kd.R_elder' (by (with_reducible repeat (first | apply Kd.R_alloc | apply Kd.R_drewN | apply Kd.R_drew)); exact HO_7.out) (Kd.R_base ho0) hb); have n2_ := Aside0.mk (Kd.R_lower (Kd.R_new' (Kd.R_new' ho0 (Kd.R_lt (by (with_reducible repeat (first | apply Kd.R_alloc | apply Kd.R_drewN | apply Kd.R_drew)); exact HO_6.out))) (Kd.R_lt (by (with_reducible repeat (first | apply Kd.R_alloc | apply Kd.R_drewN | apply Kd.R_drew)); exact HO_7.out))) (below_size (by repeat (first | (with_reducible first | exact HB.out | apply below_alloc | apply pw_below_drewN | apply below_drew1 | refine below_set ?_ GE200101.out) | exact HB.out)))); have n3_ := Aside0.mk (blk_below (g := gb200101) (o := .cells #[.int .i64 a0_0, .int .i64 a0_1, .int .i64 a0_2, .slice A0_3 l0_3.length c0_3] 32 (0, 0)) (by (with_reducible repeat (first | refine blk_drewN ?_ _ | refine blk_drew ?_ | refine blk_alloc ?_ _)); exact BK200101.out) hb); have n4_ := Aside0.mk (below_step (by repeat (first | (with_reducible first | exact HB.out | apply below_alloc | apply pw_below_drewN | apply below_drew1 | refine below_set ?_ GE200101.out) | exact HB.out)) hb); clear HO_6; clear HO_7; clear BK200101; clear HB; have HO_6 := n0_; have HO_7 := n1_; have HO200120 := n2_; have BK200101 := n3_; have HB := n4_; clear n0_ n1_ n2_ n3_ n4_; (try clear hb); (try clear hb2); (try clear hk); (try clear hi); (try clear ho0); obtain ⟨Ao50, co50, eo50⟩ := Kd.R_slice HO200120.out; subst eo50))
                    go_loopg [55] k2 (fun kq v55 w' => ∃ (x7_3 : List Int) (x55_3 : Int), v55 = .int .i64 x55_3 ∧ Aside0 (impl_CountFewest.l2 kq a1 t200106 x7_3 x8_1 x42_2 a0_0 x42_2 t200118 (t200118.length : Int) x55_3 a0_0 a0_1 a0_2 l0_3 = some (r1, r2)) ∧ Aside0 (kq ≤ k2) ∧ Aside0 (Kd.R (Kd.int .i64) 3 w' w.heap.size (fun k_ => some k_ ≠ ((.slice (some ⟨go23, 0, none⟩) x7_2.length co23) : Value).ownBlock ∧ some k_ ≠ ((.slice Ao50 t200118.length co50) : Value).ownBlock) (.slice (some ad200109) t200106.length co32) t200106) ∧ Aside0 (Kd.R (Kd.int .i64) 3 w' w.heap.size (fun k_ => some k_ ≠ ((.slice (some ad200109) t200106.length co32) : Value).ownBlock ∧ some k_ ≠ ((.slice Ao50 t200118.length co50) : Value).ownBlock) (.slice (some ⟨go23, 0, none⟩) x7_2.length co23) x7_3) ∧ Aside0 (Kd.R (Kd.int .i64) 3 w' w.heap.size (fun k_ => some k_ ≠ ((.slice (some ad200109) t200106.length co32) : Value).ownBlock ∧ some k_ ≠ ((.slice (some ⟨go23, 0, none⟩) x7_2.length co23) : Value).ownBlock) (.slice Ao50 t200118.length co50) t200118) ∧ Aside0 (w'.heap[gb200101]? = some (.cells #[.int .i64 a0_0, .int .i64 a0_1, .int .i64 a0_2, (.slice A0_3 l0_3.length c0_3)] 32 (0, 0))) ∧ Aside0 (Below w.heap.size w w'))
                    case atStart => exact ⟨(x7_2), (0), (by first | rfl | (simp; done) | (simp [*]; done)), H', ⟨Nat.le_refl _⟩, ⟨by (try simp only [hl7_1]); (try simp only [hl7_2]); (with_reducible repeat (first | apply Kd.R_alloc | apply Kd.R_drewN | apply Kd.R_drew)); exact HO_6.out⟩, ⟨by (try simp only [hl7_1]); (try simp only [hl7_2]); (with_reducible repeat (first | apply Kd.R_alloc | apply Kd.R_drewN | apply Kd.R_drew)); exact HO_7.out⟩, ⟨by (try simp only [hl7_1]); (try simp only [hl7_2]); (with_reducible repeat (first | apply Kd.R_alloc | apply Kd.R_drewN | apply Kd.R_drew)); exact Kd.R_mono HO200120.out (fun _ hk => ⟨hk.1.2, hk.2⟩)⟩, ⟨by (try simp only [hl7_1]); (try simp only [hl7_2]); (with_reducible repeat (first | refine blk_drewN ?_ _ | refine blk_drew ?_ | refine blk_alloc ?_ _)); exact BK200101.out⟩, ⟨by repeat (first | (with_reducible first | exact HB.out | apply below_alloc | apply pw_below_drewN | apply below_drew1 | refine below_set ?_ GE200101.out) | exact HB.out)⟩⟩
                    case round =>
                     clear H'
                     try clear c1
                     try clear c2
                     try clear p2
                     try clear q2
                     try clear hx2
                     try clear hf2
                     try clear c3
                     try clear c4
                     try clear c6
                     try clear c6b0
                     try clear p6
                     try clear c7
                     try clear c7b0
                     try clear c8
                     try clear c8b0
                     try clear c10
                     try clear c13
                     try clear c14
                     try clear c19
                     try clear c19b0
                     try clear c19b1
                     try clear c20
                     try clear c20b0
                     try clear c20b1
                     try clear p20
                     try clear q20
                     try clear hx20
                     try clear c21
                     try clear c21b0
                     try clear c22
                     try clear c22b0
                     try clear p23
                     try clear q23
                     try clear hx23
                     try clear hf23
                     try clear c39
                     try clear c39b0
                     try clear c40
                     try clear c40b0
                     try clear c41
                     try clear c41b0
                     try clear c43
                     try clear c43b0
                     try clear c44
                     try clear c44b0
                     try clear c45
                     try clear c45b0
                     try clear c46
                     try clear c46b0
                     try clear c46b1
                     try clear hcz10_0
                     try clear hcz10_1
                     try clear hcz10_2
                     try clear hcz10_3
                     try clear hcz15_0
                     try clear hcz15_1
                     try clear hcz15_2
                     try clear hcz15_3
                     try clear hcz25_0
                     try clear hcz25_1
                     try clear hcz25_2
                     try clear hcz25_3
                     try clear hcz30_0
                     try clear hcz30_1
                     try clear hcz30_2
                     try clear hcz30_3
                     try clear hcz33_0
                     try clear hcz33_1
                     try clear hcz33_2
                     try clear hcz33_3
                     try clear hcz36_0
                     try clear hcz36_1
                     try clear hcz36_2
                     try clear hcz36_3
                     try clear hcz42_0
                     try clear hcz42_1
                     try clear hcz42_2
                     try clear hcz42_3
                     try clear hcz48_0
                     try clear hcz48_1
                     try clear hcz48_2
                     try clear hcz48_3
                     try clear hfz10_0
                     try clear hfz10_1
                     try clear hfz10_2
                     try clear hfz10_3
                     try clear hfz15_0
                     try clear hfz15_1
                     try clear hfz15_2
                     try clear hfz15_3
                     try clear hfz25_0
                     try clear hfz25_1
                     try clear hfz25_2
                     try clear hfz25_3
                     try clear hfz30_0
                     try clear hfz30_1
                     try clear hfz30_2
                     try clear hfz30_3
                     try clear hfz33_0
                     try clear hfz33_1
                     try clear hfz33_2
                     try clear hfz33_3
                     try clear hfz36_0
                     try clear hfz36_1
                     try clear hfz36_2
                     try clear hfz36_3
                     try clear hfz42_0
                     try clear hfz42_1
                     try clear hfz42_2
                     try clear hfz42_3
                     try clear hfz48_0
                     try clear hfz48_1
                     try clear hfz48_2
                     try clear hfz48_3
                     try clear hx200109_0
                     try clear hx200114_0
                     try clear hx200117_0
                     try clear hx23_0
                     try clear p2
                     try clear p20
                     try clear p200109
                     try clear p200114
                     try clear p200117
                     try clear p23
                     try clear p6
                     try clear q2
                     try clear q20
                     try clear q200109
                     try clear q200114
                     try clear q200117
                     try clear q23
                     obtain ⟨x7_3, x55_3, rfl, HA, HK3, HO_6, HO_7, HO_53, BK200101, HB⟩ := hrel
                     have hl7_3 := (Kd.R_reads' HO_7.out).1
                     rw [hl7_3] at HO_7
                     (try simp only [hl7_3])
                     (try simp only [hl7_3] at BK200101)
                     (try simp only [hl7_3] at HO_6)
                     (try simp only [hl7_3] at HO_53)
                     cases gk with
                     | zero => exact absurd HA.out (by simp [impl_CountFewest.l2])
                     | succ k3 =>
                      have H := HA.out
                      clear HA
                      simp only [impl_CountFewest.l2] at H
                      by_cases c51 : x55_3 < (t200118.length : Int)
                      ·rw [if_pos c51] at H
                       have c51b0 : decide (x55_3 < (t200118.length : Int)) = true := decide_eq_true c51
                       (try (have c51b0z := c51b0; rw [hl7_1] at c51b0z))
                       (try (have c51b0z := c51b0; rw [hl7_2] at c51b0z))
                       (try (have c51b0z := c51b0; rw [hl7_3] at c51b0z))
                       clear c51
                       by_cases c52 : 0 ≤ x55_3
                       ·rw [if_pos c52] at H
                        have c52b0 : decide (0 ≤ x55_3) = true := decide_eq_true c52
                        clear c52
                        by_cases c53 : x55_3 < (t200118.length : Int)
                        ·rw [if_pos c53] at H
                         have c53b0 : decide (x55_3 < (t200118.length : Int)) = true := decide_eq_true c53
                         (try (have c53b0z := c53b0; rw [hl7_1] at c53b0z))
                         (try (have c53b0z := c53b0; rw [hl7_2] at c53b0z))
                         (try (have c53b0z := c53b0; rw [hl7_3] at c53b0z))
                         clear c53
                         by_cases c54 : 0 ≤ (rd t200118 x55_3)
                         ·rw [if_pos c54] at H
                          have c54b0 : decide (0 ≤ (rd t200118 x55_3)) = true := decide_eq_true c54
                          clear c54
                          by_cases c55 : (rd t200118 x55_3) < (t200106.length : Int)
                          ·rw [if_pos c55] at H
                           have c55b0 : decide ((rd t200118 x55_3) < (t200106.length : Int)) = true := decide_eq_true c55
                           (try (have c55b0z := c55b0; rw [hl7_1] at c55b0z))
                           (try (have c55b0z := c55b0; rw [hl7_2] at c55b0z))
                           (try (have c55b0z := c55b0; rw [hl7_3] at c55b0z))
                           clear c55
                           by_cases c56 : (rd t200106 (rd t200118 x55_3)) = (wrap64 (x8_1 - 1))
                           ·rw [if_pos c56] at H
                            have c56b0 : ((rd t200106 (rd t200118 x55_3)) == (wrap64 (x8_1 - 1))) = true := beq_iff_eq.mpr c56
                            have c56b1 : ((rd t200106 (rd t200118 x55_3)) != (wrap64 (x8_1 - 1))) = false := bne_eq_false_iff_eq.mpr c56
                            clear c56
                            by_cases c57 : 0 ≤ x42_2
                            ·rw [if_pos c57] at H
                             have c57b0 : decide (0 ≤ x42_2) = true := decide_eq_true c57
                             clear c57
                             by_cases c58 : x42_2 < (x7_3.length : Int)
                             ·rw [if_pos c58] at H
                              have c58b0 : decide (x42_2 < (x7_3.length : Int)) = true := decide_eq_true c58
                              (try (have c58b0z := c58b0; rw [hl7_1] at c58b0z))
                              (try (have c58b0z := c58b0; rw [hl7_2] at c58b0z))
                              (try (have c58b0z := c58b0; rw [hl7_3] at c58b0z))
                              clear c58
                              by_cases c59 : (rd t200118 x55_3) < (x7_3.length : Int)
                              ·rw [if_pos c59] at H
                               have c59b0 : decide ((rd t200118 x55_3) < (x7_3.length : Int)) = true := decide_eq_true c59
                               (try (have c59b0z := c59b0; rw [hl7_1] at c59b0z))
                               (try (have c59b0z := c59b0; rw [hl7_2] at c59b0z))
                               (try (have c59b0z := c59b0; rw [hl7_3] at c59b0z))
                               clear c59
                               obtain ⟨ji60, hji60⟩ : ∃ j_ : Int, (mn 1000000000000001 (wrap64 ((rd x7_3 x42_2) + (rd x7_3 (rd t200118 x55_3))))) = j_ := ⟨_, rfl⟩
                               replace H : (impl_CountFewest.l2 k3 a1 t200106 (x7_3.set (x42_2 : Int).toNat (ji60)) x8_1 x42_2 a0_0 x42_2 t200118 (t200118.length : Int) (wrap64 (x55_3 + 1)) a0_0 a0_1 a0_2 l0_3) = some (r1, r2) := by first | (rw [hji60] at H; exact H) | (simp only [hji60] at H ⊢; exact H)
                               have hji60_ : (if (wrap64 ((rd x7_3 x42_2) + (rd x7_3 (rd t200118 x55_3)))) < 1000000000000001 then (wrap64 ((rd x7_3 x42_2) + (rd x7_3 (rd t200118 x55_3)))) else 1000000000000001) = ji60 := hji60
                               obtain ⟨y200125, hy200125⟩ : ∃ y_ : List Int, y_ = (x7_3.set (x42_2 : Int).toNat (ji60)) := ⟨_, rfl⟩
                               replace H : (impl_CountFewest.l2 k3 a1 t200106 y200125 x8_1 x42_2 a0_0 x42_2 t200118 (t200118.length : Int) (wrap64 (x55_3 + 1)) a0_0 a0_1 a0_2 l0_3) = some (r1, r2) := by first | (rw [hy200125]; with_reducible exact H) | (have H2_ := (Option.bind_some _ _).symm.trans H; rw [hy200125]; with_reducible exact H2_) | (have H2_ := (Option.bind_some _ _).symm.trans H; with_reducible exact H2_) | with_reducible exact H | (rw [hy200125]; exact H) | exact H
                               have Ny200125 := Aside0.mk hy200125
                               clear hy200125
                               have H' := Aside0.mk H
                               clear H
                               have p200121 : 0 ≤ (x55_3 : Int) := of_decide_eq_true (by first | (with_reducible assumption) | assumption)
                               have q200121 : x55_3 < (t200118.length : Int) := of_decide_eq_true (by first | (with_reducible assumption) | assumption)
                               obtain ⟨ad200121, e200121, hx200121_0⟩ := Kd.at_int (Kd.R_reads' HO_53.out).2.2 x55_3 p200121 q200121
                               cases e200121
                               replace p200121 := eq_true p200121
                               replace q200121 := eq_true q200121
                               have p200122 : 0 ≤ ((rd t200118 x55_3) : Int) := of_decide_eq_true (by first | (with_reducible assumption) | assumption)
                               have q200122 : (rd t200118 x55_3) < (t200106.length : Int) := of_decide_eq_true (by first | (with_reducible assumption) | assumption)
                               obtain ⟨ad200122, e200122, hx200122_0⟩ := Kd.at_int (Kd.R_reads' HO_6.out).2.2 (rd t200118 x55_3) p200122 q200122
                               obtain rfl : ad200109 = ad200122 := (by injection e200122)
                               replace p200122 := eq_true p200122
                               replace q200122 := eq_true q200122
                               try go_wp2
                               have n0_ := Aside0.mk (Kd.R_drew HO_6.out)
                               have n1_ := Aside0.mk (Kd.R_drew HO_7.out)
                               have n2_ := Aside0.mk (Kd.R_drew HO_53.out)
                               have n3_ := Aside0.mk (blk_drew BK200101.out)
                               have n4_ := Aside0.mk (below_drew1 HB.out)
                               clear HO_6
                               clear HO_7
                               clear HO_53
                               clear BK200101
                               clear HB
                               have HO_6 := n0_
                               have HO_7 := n1_
                               have HO_53 := n2_
                               have BK200101 := n3_
                               have HB := n4_
                               clear n0_ n1_ n2_ n3_ n4_
                               have p200123 : 0 ≤ (x42_2 : Int) := of_decide_eq_true (by first | (with_reducible assumption) | assumption)
                               have q200123 : x42_2 < (x7_3.length : Int) := of_decide_eq_true (by first | (with_reducible assumption) | assumption)
                               obtain ⟨ad200123, e200123, hx200123_0⟩ := Kd.at_int (Kd.R_reads' HO_7.out).2.2 x42_2 p200123 q200123
                               obtain rfl : (⟨go23, 0, none⟩ : Addr) = ad200123 := (by injection e200123)
                               (first | simp only [add_plain] at hx200123_0 | simp only [add_at] at hx200123_0 | simp only [Addr.add, Nat.zero_add] at hx200123_0 | skip)
                               replace p200123 := eq_true p200123
                               replace q200123 := eq_true q200123
                               have p200124 : 0 ≤ ((rd t200118 x55_3) : Int) := of_decide_eq_true (by first | (with_reducible assumption) | assumption)
                               have q200124 : (rd t200118 x55_3) < (x7_3.length : Int) := of_decide_eq_true (by first | (with_reducible assumption) | assumption)
                               obtain ⟨ad200124, e200124, hx200124_0⟩ := Kd.at_int (Kd.R_reads' HO_7.out).2.2 (rd t200118 x55_3) p200124 q200124
                               obtain rfl : (⟨go23, 0, none⟩ : Addr) = ad200124 := (by injection e200124)
                               (first | simp only [add_plain] at hx200124_0 | simp only [add_at] at hx200124_0 | simp only [Addr.add, Nat.zero_add] at hx200124_0 | skip)
                               replace p200124 := eq_true p200124
                               replace q200124 := eq_true q200124
                               have p61 : 0 ≤ (x42_2 : Int) := of_decide_eq_true (by first | (with_reducible assumption) | assumption)
                               have q61 : (x42_2 : Int) < ((x7_3.length : Int) : Int) := of_decide_eq_true (by first | (with_reducible assumption) | assumption)
                               obtain ⟨hx61_0, hf61_0⟩ := Kd.R_celln 0 HO_7.out (x42_2 : Int) p61 q61
                               replace p61 := eq_true p61
                               replace q61 := eq_true q61
                               have HP63 := Kd.R_putn HO_7.out (x42_2 : Int) ji60
                               rw [← Ny200125.out] at HP63
                               have HQ63 := Aside0.mk HP63
                               clear HP63
                               refine start_ (n := 14) (S := fun w' => w'.cell? ⟨go23, (x42_2).toNat, none⟩ = some (.int .i64 (rd x7_3 x42_2)) ∧ w'.cell? ⟨go23, ((rd t200118 x55_3)).toNat, none⟩ = some (.int .i64 (rd x7_3 (rd t200118 x55_3)))) (ds := [13]) #[false, false, false, false, false, false, false, false, false, false, false, false, false, false] (by kernel_rfl) rfl rfl ⟨hx200123_0, hx200124_0⟩ (fun hHeld => ?_); refine with_tabW impl_CountFewest.tab19 impl_CountFewest.bits19 (fun HT_ HW_ => ?_)
                               generalize wr.drew = w62 at HO_6 HO_7 HO_53 BK200101 HB HQ63 hf61_0 hx200123_0 hx200124_0 hx61_0 hHeld ⊢
                               refine pure_ (i := 0) (N := some 66) (v := ?_) (a' := ?_) #[true, false, false, false, false, false, false, false, false, false, false, false, false, false] rfl rfl (any_of HT_.out (by kernel_rfl)) (fun _ _ _ h => h) (Or.inl ⟨by rfl, ?_⟩) ?_ ?_
                               rotate_left
                               ·intro w'
                                go_simp
                                with_reducible rfl
                               rotate_left
                               ·simp only [Act.put, List.setIfInBounds_toArray, List.set_cons_zero, List.set_cons_succ, i64_w, i32_w]
                                rfl
                               refine pure_ (i := 1) (N := some 67) (v := ?_) (a' := ?_) #[true, true, false, false, false, false, false, false, false, false, false, false, false, false] rfl rfl (any_of HT_.out (by kernel_rfl)) (fun _ _ _ h => h) (Or.inl ⟨by rfl, ?_⟩) ?_ ?_
                               rotate_left
                               ·intro w'
                                go_simp
                                with_reducible rfl
                               rotate_left
                               ·simp only [Act.put, List.setIfInBounds_toArray, List.set_cons_zero, List.set_cons_succ, i64_w, i32_w]
                                rfl
                               refine pure_ (i := 2) (N := some 68) (v := ?_) (a' := ?_) #[true, true, true, false, false, false, false, false, false, false, false, false, false, false] rfl rfl (any_of HT_.out (by kernel_rfl)) (fun _ _ _ h => h) (Or.inl ⟨by rfl, ?_⟩) ?_ ?_
                               rotate_left
                               ·intro w'
                                go_simp
                                with_reducible rfl
                               rotate_left
                               ·simp only [Act.put, List.setIfInBounds_toArray, List.set_cons_zero, List.set_cons_succ, i64_w, i32_w]
                                rfl
                               refine pure_ (i := 3) (N := some 69) (v := ?_) (a' := ?_) #[true, true, true, true, false, false, false, false, false, false, false, false, false, false] rfl rfl (any_of HT_.out (by kernel_rfl)) (fun _ _ _ h => h) (Or.inl ⟨by rfl, ?_⟩) ?_ ?_
                               rotate_left
                               ·intro w'
                                go_simp
                                with_reducible rfl
                               rotate_left
                               ·simp only [Act.put, List.setIfInBounds_toArray, List.set_cons_zero, List.set_cons_succ, i64_w, i32_w]
                                rfl
                               refine pure_ (i := 4) (N := some 70) (v := ?_) (a' := ?_) #[true, true, true, true, true, false, false, false, false, false, false, false, false, false] rfl rfl (any_of HT_.out (by kernel_rfl)) (fun _ _ _ h => h) (Or.inl ⟨by rfl, ?_⟩) ?_ ?_
                               rotate_left
                               ·intro w'
                                go_simp
                                with_reducible rfl
                               rotate_left
                               ·simp only [Act.put, List.setIfInBounds_toArray, List.set_cons_zero, List.set_cons_succ, i64_w, i32_w]
                                rfl
                               refine pure_ (i := 6) (N := some 72) (v := ?_) (a' := ?_) #[true, true, true, true, true, false, true, false, false, false, false, false, false, false] rfl rfl (any_of HT_.out (by kernel_rfl)) (fun _ _ _ h => h) (Or.inl ⟨by rfl, ?_⟩) ?_ ?_
                               rotate_left
                               ·intro w'
                                go_simp
                                with_reducible rfl
                               rotate_left
                               ·simp only [Act.put, List.setIfInBounds_toArray, List.set_cons_zero, List.set_cons_succ, i64_w, i32_w]
                                rfl
                               refine pure_ (i := 7) (N := some 73) (v := ?_) (a' := ?_) #[true, true, true, true, true, false, true, true, false, false, false, false, false, false] rfl rfl (any_of HT_.out (by kernel_rfl)) (fun _ _ _ h => h) (Or.inl ⟨by rfl, ?_⟩) ?_ ?_
                               rotate_left
                               ·intro w'
                                go_simp
                                with_reducible rfl
                               rotate_left
                               ·simp only [Act.put, List.setIfInBounds_toArray, List.set_cons_zero, List.set_cons_succ, i64_w, i32_w]
                                rfl
                               refine pure_ (i := 8) (N := some 74) (v := ?_) (a' := ?_) #[true, true, true, true, true, false, true, true, true, false, false, false, false, false] rfl rfl (any_of HT_.out (by kernel_rfl)) (fun _ _ _ h => h) (Or.inl ⟨by rfl, ?_⟩) ?_ ?_
                               rotate_left
                               ·intro w'
                                go_simp
                                with_reducible rfl
                               rotate_left
                               ·simp only [Act.put, List.setIfInBounds_toArray, List.set_cons_zero, List.set_cons_succ, i64_w, i32_w]
                                rfl
                               refine take_ (i := 5) (N := some 71) (v := ?_) (a' := ?_) #[true, true, true, true, true, true, true, true, true, false, false, false, false, false] rfl rfl (take_ofW HT_.out HW_.out (by kernel_rfl)) (fun _ _ _ h => h) (Or.inl ⟨by rfl, ?_⟩) hHeld ?_ ?_
                               rotate_left
                               ·rintro w' ⟨s0, s1⟩
                                go_simp
                                with_reducible rfl
                               rotate_left
                               ·simp only [Act.put, List.setIfInBounds_toArray, List.set_cons_zero, List.set_cons_succ, i64_w, i32_w]
                                rfl
                               refine take_ (i := 9) (N := some 75) (v := ?_) (a' := ?_) #[true, true, true, true, true, true, true, true, true, true, false, false, false, false] rfl rfl (take_ofW HT_.out HW_.out (by kernel_rfl)) (fun _ _ _ h => h) (Or.inl ⟨by rfl, ?_⟩) hHeld ?_ ?_
                               rotate_left
                               ·rintro w' ⟨s0, s1⟩
                                go_simp
                                with_reducible rfl
                               rotate_left
                               ·simp only [Act.put, List.setIfInBounds_toArray, List.set_cons_zero, List.set_cons_succ, i64_w, i32_w]
                                rfl
                               refine pure_ (i := 10) (N := some 76) (v := ?_) (a' := ?_) #[true, true, true, true, true, true, true, true, true, true, true, false, false, false] rfl rfl (any_of HT_.out (by kernel_rfl)) (fun _ _ _ h => h) (Or.inl ⟨by rfl, ?_⟩) ?_ ?_
                               rotate_left
                               ·intro w'
                                go_simp
                                with_reducible rfl
                               rotate_left
                               ·simp only [Act.put, List.setIfInBounds_toArray, List.set_cons_zero, List.set_cons_succ, i64_w, i32_w]
                                rfl
                               refine pure_ (i := 11) (N := some 77) (v := ?_) (a' := ?_) #[true, true, true, true, true, true, true, true, true, true, true, true, false, false] rfl rfl (any_of HT_.out (by kernel_rfl)) (fun _ _ _ h => h) (Or.inl ⟨by rfl, ?_⟩) ?_ ?_
                               rotate_left
                               ·intro w'
                                go_simp
                                with_reducible rfl
                               rotate_left
                               ·simp only [Act.put, List.setIfInBounds_toArray, List.set_cons_zero, List.set_cons_succ, i64_w, i32_w]
                                rfl
                               refine pure_ (i := 12) (N := some 78) (v := ?_) (a' := ?_) #[true, true, true, true, true, true, true, true, true, true, true, true, true, false] rfl rfl (any_of HT_.out (by kernel_rfl)) (fun _ _ _ h => h) (Or.inl ⟨by rfl, ?_⟩) ?_ ?_
                               rotate_left
                               ·intro w'
                                go_simp
                                with_reducible rfl
                               rotate_left
                               ·simp only [Act.put, List.setIfInBounds_toArray, List.set_cons_zero, List.set_cons_succ, i64_w, i32_w]
                                rfl
                               refine last_ (i := 13) (N := none) #[true, true, true, true, true, true, true, true, true, true, true, true, true, true] rfl rfl (one_of HT_.out (by kernel_rfl)) (by decide) (fun K hK => ?_)
                               refine skip_ (w1 := ?_) (by rfl) rfl ?_ ?_
                               rotate_left
                               ·go_simp
                                rfl
                               refine hK.out _ _ ?_
                               clear hK K
                               refine done_ (done_of HT_.out (by kernel_rfl)) ?_
                               try go_wp2
                               (try simp only [← hl7_3])
                               go_roundg k3
                               case measure => have := HK1.out; have := HK2.out; have := HK3.out; omega
                               case rel => exact ⟨(y200125), (wrap64 (x55_3 + 1)), (by first | rfl | (simp; done) | (simp [*]; done)), H', ⟨by have := HK1.out; have := HK2.out; have := HK3.out; omega⟩, ⟨by (try simp only [hl7_1]); (try simp only [hl7_2]); (try simp only [hl7_3]); (with_reducible repeat (first | apply Kd.R_alloc | apply Kd.R_drewN | apply Kd.R_drew)); exact Kd.R_mono (Kd.R_far (p := ⟨go23, (x42_2 : Int).toNat, none⟩) (Kd.R_mono HO_6.out (fun k_ hk => (⟨hk, fun e_ => hk.1 (by rw [e_]; rfl)⟩ : _ ∧ k_ ≠ go23))) (fun _ hk => hk.2) (.int .i64 ji60)) (fun _ hk => ⟨hk.1.1, hk.1.2⟩)⟩, ⟨by (try simp only [hl7_1]); (try simp only [hl7_2]); (try simp only [hl7_3]); (with_reducible repeat (first | apply Kd.R_alloc | apply Kd.R_drewN | apply Kd.R_drew)); exact HQ63.out⟩, ⟨by (try simp only [hl7_1]); (try simp only [hl7_2]); (try simp only [hl7_3]); (with_reducible repeat (first | apply Kd.R_alloc | apply Kd.R_drewN | apply Kd.R_drew)); exact Kd.R_mono (Kd.R_far (p := ⟨go23, (x42_2 : Int).toNat, none⟩) (Kd.R_mono HO_53.out (fun k_ hk => (⟨hk, fun e_ => hk.2 (by rw [e_]; rfl)⟩ : _ ∧ k_ ≠ go23))) (fun _ hk => hk.2) (.int .i64 ji60)) (fun _ hk => ⟨hk.1.1, hk.1.2⟩)⟩, ⟨by (try simp only [hl7_1]); (try simp only [hl7_2]); (try simp only [hl7_3]); (with_reducible repeat (first | refine blk_drewN ?_ _ | refine blk_drew ?_ | refine blk_alloc ?_ _)); refine blk_far ?_ (by have h_ := Kd.R_ne HO_7.out BK200101.out (by decide); intro e_; exact h_ (by rw [e_]; rfl)) _; (with_reducible repeat (first | refine blk_drewN ?_ _ | refine blk_drew ?_ | refine blk_alloc ?_ _)); exact BK200101.out⟩, ⟨by repeat (first | (with_reducible first | exact HB.out | apply below_alloc | apply pw_below_drewN | apply below_drew1 | refine below_set ?_ GB23.out | refine below_set ?_ GE200101.out) | exact HB.out)⟩⟩
                              ·rw [if_neg c59] at H
                               exact absurd H (by simp)
                             ·rw [if_neg c58] at H
                              exact absurd H (by simp)
                            ·rw [if_neg c57] at H
                             exact absurd H (by simp)
                           ·rw [if_neg c56] at H
                            have c56b0 : ((rd t200106 (rd t200118 x55_3)) == (wrap64 (x8_1 - 1))) = false := beq_eq_false_iff_ne.mpr c56
                            have c56b1 : ((rd t200106 (rd t200118 x55_3)) != (wrap64 (x8_1 - 1))) = true := bne_iff_ne.mpr c56
                            have H' := Aside0.mk H
                            clear H
                            have p200121 : 0 ≤ (x55_3 : Int) := of_decide_eq_true (by first | (with_reducible assumption) | assumption)
                            have q200121 : x55_3 < (t200118.length : Int) := of_decide_eq_true (by first | (with_reducible assumption) | assumption)
                            obtain ⟨ad200121, e200121, hx200121_0⟩ := Kd.at_int (Kd.R_reads' HO_53.out).2.2 x55_3 p200121 q200121
                            cases e200121
                            replace p200121 := eq_true p200121
                            replace q200121 := eq_true q200121
                            have p200122 : 0 ≤ ((rd t200118 x55_3) : Int) := of_decide_eq_true (by first | (with_reducible assumption) | assumption)
                            have q200122 : (rd t200118 x55_3) < (t200106.length : Int) := of_decide_eq_true (by first | (with_reducible assumption) | assumption)
                            obtain ⟨ad200122, e200122, hx200122_0⟩ := Kd.at_int (Kd.R_reads' HO_6.out).2.2 (rd t200118 x55_3) p200122 q200122
                            obtain rfl : ad200109 = ad200122 := (by injection e200122)
                            replace p200122 := eq_true p200122
                            replace q200122 := eq_true q200122
                            go_wp2
                            (try simp only [← hl7_3])
                            go_roundg k3
                            case measure => have := HK1.out; have := HK2.out; have := HK3.out; omega
                            case rel => exact ⟨(x7_3), (wrap64 (x55_3 + 1)), (by first | rfl | (simp; done) | (simp [*]; done)), H', ⟨by have := HK1.out; have := HK2.out; have := HK3.out; omega⟩, ⟨by (try simp only [hl7_1]); (try simp only [hl7_2]); (try simp only [hl7_3]); (with_reducible repeat (first | apply Kd.R_alloc | apply Kd.R_drewN | apply Kd.R_drew)); exact HO_6.out⟩, ⟨by (try simp only [hl7_1]); (try simp only [hl7_2]); (try simp only [hl7_3]); (with_reducible repeat (first | apply Kd.R_alloc | apply Kd.R_drewN | apply Kd.R_drew)); exact HO_7.out⟩, ⟨by (try simp only [hl7_1]); (try simp only [hl7_2]); (try simp only [hl7_3]); (with_reducible repeat (first | apply Kd.R_alloc | apply Kd.R_drewN | apply Kd.R_drew)); exact HO_53.out⟩, ⟨by (try simp only [hl7_1]); (try simp only [hl7_2]); (try simp only [hl7_3]); (with_reducible repeat (first | refine blk_drewN ?_ _ | refine blk_drew ?_ | refine blk_alloc ?_ _)); exact BK200101.out⟩, ⟨by repeat (first | (with_reducible first | exact HB.out | apply below_alloc | apply pw_below_drewN | apply below_drew1 | refine below_set ?_ GE200101.out) | exact HB.out)⟩⟩
                          ·rw [if_neg c55] at H
                           exact absurd H (by simp)
                         ·rw [if_neg c54] at H
                          exact absurd H (by simp)
                        ·rw [if_neg c53] at H
                         exact absurd H (by simp)
                       ·rw [if_neg c52] at H
                        exact absurd H (by simp)
                      ·rw [if_neg c51] at H
                       have c51b0 : decide (x55_3 < (t200118.length : Int)) = false := decide_eq_false c51
                       (try (have c51b0z := c51b0; rw [hl7_1] at c51b0z))
                       (try (have c51b0z := c51b0; rw [hl7_2] at c51b0z))
                       (try (have c51b0z := c51b0; rw [hl7_3] at c51b0z))
                       clear c51
                       have H' := Aside0.mk H
                       clear H
                       go_wp2
                       (try simp only [← hl7_2, ← hl7_3])
                       go_roundg k3
                       case measure => have := HK1.out; have := HK2.out; have := HK3.out; omega
                       case rel => exact ⟨(x7_3), (wrap64 (x42_2 + 1)), (by first | rfl | (simp; done) | (simp [*]; done)), H', ⟨by have := HK1.out; have := HK2.out; have := HK3.out; omega⟩, ⟨by (try simp only [hl7_1]); (try simp only [hl7_2]); (try simp only [hl7_3]); (with_reducible repeat (first | apply Kd.R_alloc | apply Kd.R_drewN | apply Kd.R_drew)); exact Kd.R_mono HO_6.out (fun _ hk => hk.1)⟩, ⟨by (try simp only [hl7_1]); (try simp only [hl7_2]); (try simp only [hl7_3]); (with_reducible repeat (first | apply Kd.R_alloc | apply Kd.R_drewN | apply Kd.R_drew)); exact Kd.R_mono HO_7.out (fun _ hk => hk.1)⟩, ⟨by (try simp only [hl7_1]); (try simp only [hl7_2]); (try simp only [hl7_3]); (with_reducible repeat (first | refine blk_drewN ?_ _ | refine blk_drew ?_ | refine blk_alloc ?_ _)); exact BK200101.out⟩, ⟨by repeat (first | (with_reducible first | exact HB.out | apply below_alloc | apply pw_below_drewN | apply below_drew1 | refine below_set ?_ GE200101.out) | exact HB.out)⟩⟩
                   ·rw [if_neg c46] at H
                    have c46b0 : ((rd t200106 x42_2) == x8_1) = false := beq_eq_false_iff_ne.mpr c46
                    have c46b1 : ((rd t200106 x42_2) != x8_1) = true := bne_iff_ne.mpr c46
                    have H' := Aside0.mk H
                    clear H
                    have p200117 : 0 ≤ (x42_2 : Int) := of_decide_eq_true (by first | (with_reducible assumption) | assumption)
                    have q200117 : x42_2 < (t200106.length : Int) := of_decide_eq_true (by first | (with_reducible assumption) | assumption)
                    obtain ⟨ad200117, e200117, hx200117_0⟩ := Kd.at_int (Kd.R_reads' HO_6.out).2.2 x42_2 p200117 q200117
                    obtain rfl : ad200109 = ad200117 := (by injection e200117)
                    replace p200117 := eq_true p200117
                    replace q200117 := eq_true q200117
                    go_wp2
                    (try simp only [← hl7_2])
                    go_roundg k2
                    case measure => have := HK1.out; have := HK2.out; omega
                    case rel => exact ⟨(x7_2), (wrap64 (x42_2 + 1)), (by first | rfl | (simp; done) | (simp [*]; done)), H', ⟨by have := HK1.out; have := HK2.out; omega⟩, ⟨by (try simp only [hl7_1]); (try simp only [hl7_2]); (with_reducible repeat (first | apply Kd.R_alloc | apply Kd.R_drewN | apply Kd.R_drew)); exact HO_6.out⟩, ⟨by (try simp only [hl7_1]); (try simp only [hl7_2]); (with_reducible repeat (first | apply Kd.R_alloc | apply Kd.R_drewN | apply Kd.R_drew)); exact HO_7.out⟩, ⟨by (try simp only [hl7_1]); (try simp only [hl7_2]); (with_reducible repeat (first | refine blk_drewN ?_ _ | refine blk_drew ?_ | refine blk_alloc ?_ _)); exact BK200101.out⟩, ⟨by repeat (first | (with_reducible first | exact HB.out | apply below_alloc | apply pw_below_drewN | apply below_drew1 | refine below_set ?_ GE200101.out) | exact HB.out)⟩⟩
                  ·rw [if_neg c45] at H
                   exact absurd H (by simp)
                 ·rw [if_neg c44] at H
                  exact absurd H (by simp)
                ·rw [if_neg c43] at H
                 have c43b0 : decide (x42_2 < a0_0) = false := decide_eq_false c43
                 clear c43
                 have H' := Aside0.mk H
                 clear H
                 go_wp2
                 (try simp only [← hl7_1, ← hl7_2])
                 go_roundg k2
                 case measure => have := HK1.out; have := HK2.out; omega
                 case rel => exact ⟨(x7_2), (wrap64 (x8_1 + 1)), (by first | rfl | (simp; done) | (simp [*]; done)), H', ⟨by have := HK1.out; have := HK2.out; omega⟩, ⟨by (try simp only [hl7_1]); (try simp only [hl7_2]); (with_reducible repeat (first | apply Kd.R_alloc | apply Kd.R_drewN | apply Kd.R_drew)); exact HO_6.out⟩, ⟨by (try simp only [hl7_1]); (try simp only [hl7_2]); (with_reducible repeat (first | apply Kd.R_alloc | apply Kd.R_drewN | apply Kd.R_drew)); exact HO_7.out⟩, ⟨by (try simp only [hl7_1]); (try simp only [hl7_2]); (with_reducible repeat (first | refine blk_drewN ?_ _ | refine blk_drew ?_ | refine blk_alloc ?_ _)); exact BK200101.out⟩, ⟨by repeat (first | (with_reducible first | exact HB.out | apply below_alloc | apply pw_below_drewN | apply below_drew1 | refine below_set ?_ GE200101.out) | exact HB.out)⟩⟩
             ·rw [if_neg c41] at H
              have c41b0 : decide (x8_1 ≤ (rd t200106 a1)) = false := decide_eq_false c41
              clear c41
              by_cases c64 : a1 < (x7_1.length : Int)
              ·rw [if_pos c64] at H
               have c64b0 : decide (a1 < (x7_1.length : Int)) = true := decide_eq_true c64
               (try (have c64b0z := c64b0; rw [hl7_1] at c64b0z))
               clear c64
               by_cases c65 : (rd x7_1 a1) > 1000000000000000
               ·rw [if_pos c65] at H
                have c65b0 : decide (1000000000000000 < (rd x7_1 a1)) = true := decide_eq_true c65
                clear c65
                simp only [Option.some.injEq, Prod.mk.injEq] at H
                obtain ⟨rfl, rfl⟩ := H
                have p200114 : 0 ≤ (a1 : Int) := of_decide_eq_true (by first | (with_reducible assumption) | assumption)
                have q200114 : a1 < (t200106.length : Int) := of_decide_eq_true (by first | (with_reducible assumption) | assumption)
                obtain ⟨ad200114, e200114, hx200114_0⟩ := Kd.at_int (Kd.R_reads' HO_6.out).2.2 a1 p200114 q200114
                obtain rfl : ad200109 = ad200114 := (by injection e200114)
                replace p200114 := eq_true p200114
                replace q200114 := eq_true q200114
                have p200115 : 0 ≤ (a1 : Int) := of_decide_eq_true (by first | (with_reducible assumption) | assumption)
                have q200115 : a1 < (x7_1.length : Int) := of_decide_eq_true (by first | (with_reducible assumption) | assumption)
                obtain ⟨ad200115, e200115, hx200115_0⟩ := Kd.at_int (Kd.R_reads' HO_7.out).2.2 a1 p200115 q200115
                obtain rfl : (⟨go23, 0, none⟩ : Addr) = ad200115 := (by injection e200115)
                (first | simp only [add_plain] at hx200115_0 | simp only [add_at] at hx200115_0 | simp only [Addr.add, Nat.zero_add] at hx200115_0 | skip)
                replace p200115 := eq_true p200115
                replace q200115 := eq_true q200115
                go_wp2
                go_ret2
                exact ⟨by first | rfl | (simp [errW_none, errW_some] <;> rfl) | (simp only [← hji18]; first | rfl | (simp [errW_none, errW_some] <;> rfl)) | (simp [*, errW_none, errW_some] <;> rfl), by repeat (first | (with_reducible first | exact HB.out | apply below_alloc | apply pw_below_drewN | apply below_drew1 | refine below_set ?_ GE200101.out) | exact HB.out)⟩
               ·rw [if_neg c65] at H
                have c65b0 : decide (1000000000000000 < (rd x7_1 a1)) = false := decide_eq_false c65
                clear c65
                simp only [Option.some.injEq, Prod.mk.injEq] at H
                obtain ⟨rfl, rfl⟩ := H
                have p200114 : 0 ≤ (a1 : Int) := of_decide_eq_true (by first | (with_reducible assumption) | assumption)
                have q200114 : a1 < (t200106.length : Int) := of_decide_eq_true (by first | (with_reducible assumption) | assumption)
                obtain ⟨ad200114, e200114, hx200114_0⟩ := Kd.at_int (Kd.R_reads' HO_6.out).2.2 a1 p200114 q200114
                obtain rfl : ad200109 = ad200114 := (by injection e200114)
                replace p200114 := eq_true p200114
                replace q200114 := eq_true q200114
                have p200115 : 0 ≤ (a1 : Int) := of_decide_eq_true (by first | (with_reducible assumption) | assumption)
                have q200115 : a1 < (x7_1.length : Int) := of_decide_eq_true (by first | (with_reducible assumption) | assumption)
                obtain ⟨ad200115, e200115, hx200115_0⟩ := Kd.at_int (Kd.R_reads' HO_7.out).2.2 a1 p200115 q200115
                obtain rfl : (⟨go23, 0, none⟩ : Addr) = ad200115 := (by injection e200115)
                (first | simp only [add_plain] at hx200115_0 | simp only [add_at] at hx200115_0 | simp only [Addr.add, Nat.zero_add] at hx200115_0 | skip)
                replace p200115 := eq_true p200115
                replace q200115 := eq_true q200115
                have p200116 : 0 ≤ (a1 : Int) := of_decide_eq_true (by first | (with_reducible assumption) | assumption)
                have q200116 : a1 < (x7_1.length : Int) := of_decide_eq_true (by first | (with_reducible assumption) | assumption)
                obtain ⟨ad200116, e200116, hx200116_0⟩ := Kd.at_int (Kd.R_reads' HO_7.out).2.2 a1 p200116 q200116
                obtain rfl : (⟨go23, 0, none⟩ : Addr) = ad200116 := (by injection e200116)
                (first | simp only [add_plain] at hx200116_0 | simp only [add_at] at hx200116_0 | simp only [Addr.add, Nat.zero_add] at hx200116_0 | skip)
                replace p200116 := eq_true p200116
                replace q200116 := eq_true q200116
                go_wp2
                go_ret2
                exact ⟨by first | rfl | (simp [errW_none, errW_some] <;> rfl) | (simp only [← hji18]; first | rfl | (simp [errW_none, errW_some] <;> rfl)) | (simp [*, errW_none, errW_some] <;> rfl), by repeat (first | (with_reducible first | exact HB.out | apply below_alloc | apply pw_below_drewN | apply below_drew1 | refine below_set ?_ GE200101.out) | exact HB.out)⟩
              ·rw [if_neg c64] at H
               exact absurd H (by simp)
            ·rw [if_neg c40] at H
             exact absurd H (by simp)
           ·rw [if_neg c39] at H
            exact absurd H (by simp)
        ·rw [if_neg c22] at H
         exact absurd H (by simp)
       ·rw [if_neg c21] at H
        exact absurd H (by simp)
      ·rw [if_neg c20] at H
       exact absurd H (by simp)
     ·rw [if_neg c19] at H
      exact absurd H (by simp)
   ·rw [if_neg c7] at H
    exact absurd H (by simp)
  ·rw [if_neg c6] at H
   exact absurd H (by simp)
 ·replace c4 := Bool.eq_false_iff.mpr c4
  subst c4
  have H1 : (some (0, false)) = some (r1, r2) := by rw [if_neg (show ¬ (false = true) by decide)] at H; exact H
  clear H
  have H := H1
  clear H1
  simp only [Option.some.injEq, Prod.mk.injEq] at H
  obtain ⟨rfl, rfl⟩ := H
  go_enter Try.func100, Try.ntmps100
  go_wp2_with (first | ((with_reducible refine gate_dst (N := 2) rfl ?_); refine box_event ?hg (N := 2) ?hd (cs := #[.int .i64 a0_0, .int .i64 a0_1, .int .i64 a0_2, .slice A0_3 l0_3.length c0_3]) (t := 32) ?hr ?_; (case hd => rfl); (case hg => rfl); (case hr => first | (go_simp; done) | (go_simp; rfl)); intro gb200101 hg w66 hbox hb; have n0_ := Aside0.mk (below_step (by repeat (first | (with_reducible first | exact HB.out | apply below_alloc | apply pw_below_drewN | apply below_drew1) | exact HB.out)) hb); have n1_ := Aside0.mk (hbox); have n2_ := Aside0.mk ((by rw [hg]; exact (below_size (by repeat (first | (with_reducible first | exact HB.out | apply below_alloc | apply pw_below_drewN | apply below_drew1) | exact HB.out))) : w.heap.size ≤ gb200101)); have n3_ := Aside0.mk ((by rw [hg]; exact (below_size (by repeat (first | (with_reducible first | exact HB.out | apply below_alloc | apply pw_below_drewN | apply below_drew1) | exact HB.out))) : w.heap.size ≤ gb200101)); clear HB; have HB := n0_; have BK200101 := n1_; have GW200101 := n2_; have GE200101 := n3_; clear n0_ n1_ n2_ n3_; clear hb hbox hg; have hcz67_0 : w66.cell? ⟨gb200101, 0, none⟩ = some (.int .i64 a0_0) := (blk_cell BK200101.out 0).trans rfl; have hcz67_1 : w66.cell? ⟨gb200101, 1, none⟩ = some (.int .i64 a0_1) := (blk_cell BK200101.out 1).trans rfl; have hcz67_2 : w66.cell? ⟨gb200101, 2, none⟩ = some (.int .i64 a0_2) := (blk_cell BK200101.out 2).trans rfl; have hcz67_3 : w66.cell? ⟨gb200101, 3, none⟩ = some (.slice A0_3 l0_3.length c0_3) := (blk_cell BK200101.out 3).trans rfl; have hfz67_0 := blk_frozen BK200101.out 0; have hfz67_1 := blk_frozen BK200101.out 1; have hfz67_2 := blk_frozen BK200101.out 2; have hfz67_3 := blk_frozen BK200101.out 3) | ((with_reducible refine gate_dst (N := 14) rfl ?_); refine Kd.R_lit (Kd.int .i64) _ 3 ?hg (N := 14) ?hd (xs := ([a1] : List Int)) (inner := [.int .i64 a1]) (ok := fun _ => True) (okp := fun _ => True) ?hr ?hp (fun _ hk => hk) trivial (Below.refl _ _) (Nat.le_refl _) (by simp) ?_; (case hd => rfl); (case hg => rfl); (case hr => first | (go_simp; done) | (go_simp; rfl)); (case hp => exact (Reps.one (show Kd.M (Kd.int .i64) _ _ _ a1 [.int .i64 a1] from rfl) (Reps.none _ _))); intro v200103 w68 ho69 hb hg_ hnew_; clear hg_ hnew_; (first | rw [← Ny200102.out] at ho69 | (simp only [Int.reduceToNat] at ho69; rw [← Ny200102.out] at ho69)); have n0_ := Aside0.mk (Kd.R_lower ho69 (below_size (by repeat (first | (with_reducible first | exact HB.out | apply below_alloc | apply pw_below_drewN | apply below_drew1 | refine below_set ?_ GE200101.out) | exact HB.out)))); have n1_ := Aside0.mk (blk_below (g := gb200101) (o := .cells #[.int .i64 a0_0, .int .i64 a0_1, .int .i64 a0_2, .slice A0_3 l0_3.length c0_3] 32 (0, 0)) (by (with_reducible repeat (first | refine blk_drewN ?_ _ | refine blk_drew ?_ | refine blk_alloc ?_ _)); exact BK200101.out) hb); have n2_ := Aside0.mk (below_step (by repeat (first | (with_reducible first | exact HB.out | apply below_alloc | apply pw_below_drewN | apply below_drew1 | refine below_set ?_ GE200101.out) | exact HB.out)) hb); clear BK200101; clear HB; have HO200104 := n0_; have BK200101 := n1_; have HB := n2_; clear n0_ n1_ n2_; clear hb ho69; obtain ⟨Ao70, co70, eo70⟩ := Kd.R_slice HO200104.out; subst eo70) | ((with_reducible refine gate_callee (f := 134) rfl ?_); refine goesL_ (some 15) rfl rfl Try.func134 (by kernel_rfl) rfl #[.agg #[.int .i64 a0_0, .int .i64 a0_1, .int .i64 a0_2, .slice A0_3 l0_3.length c0_3], .slice Ao70 y200102.length co70] rfl (by (try simp only [List.map_toArray, List.map_cons, List.map_nil]); first | done | rfl | (simp only [List.length_drop, List.length_take]; rfl)) ?_; (with_reducible refine (impl_areSquares.calls k a0_0 a0_1 a0_2 _ _ l0_3 _ _ y200102 false _ ?side1 ?side2 ?side3 ?side4 A3.out).mono ?_); (case side1 => repeat (first | exact (Kd.C_below HR0_3.out HB.out) | (with_reducible refine Kd.C_alloc ?_ _) | (with_reducible refine Kd.C_drewN ?_ _) | (with_reducible refine Kd.C_drew ?_))); (case side2 => exact HC0_3.out); (case side3 => repeat (first | exact (Kd.R_reads' HO200104.out).2.2 | (with_reducible refine Kd.C_alloc ?_ _) | (with_reducible refine Kd.C_drewN ?_ _) | (with_reducible refine Kd.C_drew ?_))); (case side4 => exact (Kd.R_reads' HO200104.out).2.1); rintro e w71 ⟨rfl, hb⟩; refine ⟨_, rfl, ?_⟩; have n0_ := Aside0.mk (Kd.R_below (by (with_reducible repeat (first | apply Kd.R_alloc | apply Kd.R_drewN | apply Kd.R_drew)); exact HO200104.out) hb); have n1_ := Aside0.mk (blk_below (g := gb200101) (o := .cells #[.int .i64 a0_0, .int .i64 a0_1, .int .i64 a0_2, .slice A0_3 l0_3.length c0_3] 32 (0, 0)) (by (with_reducible repeat (first | refine blk_drewN ?_ _ | refine blk_drew ?_ | refine blk_alloc ?_ _)); exact BK200101.out) hb); have n2_ := Aside0.mk (below_step (by repeat (first | (with_reducible first | exact HB.out | apply below_alloc | apply pw_below_drewN | apply below_drew1 | refine below_set ?_ GE200101.out) | exact HB.out)) hb); clear HO200104; clear BK200101; clear HB; have HO200104 := n0_; have BK200101 := n1_; have HB := n2_; clear n0_ n1_ n2_; (try clear hb); (try clear hb2); (try clear hk); (try clear hi)))
  go_ret2
  exact ⟨by first | rfl | (simp [errW_none, errW_some] <;> rfl) | (simp [*, errW_none, errW_some] <;> rfl), by repeat (first | (with_reducible first | exact HB.out | apply below_alloc | apply pw_below_drewN | apply below_drew1 | refine below_set ?_ GE200101.out) | exact HB.out)⟩

end Go.Proofs.Ytkobjjadojpjfaa.Pr
