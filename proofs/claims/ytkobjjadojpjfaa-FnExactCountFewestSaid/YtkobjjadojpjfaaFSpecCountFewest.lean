-- A text of the machine side, written by wip/gen.py of this repo out of the translation. Not trusted: Lean checks it.
import Derived.Test.YtkobjjadojpjfaaF0
import Derived.Test.YtkobjjadojpjfaaFGB
import Derived.Test.YtkobjjadojpjfaaFGC
import Derived.Test.YtkobjjadojpjfaaFSpecL1Least
import Derived.Test.YtkobjjadojpjfaaFSpecSqFar
namespace Go.Proofs.Ytkobjjadojpjfaa.Pr
open Go.RowKit Go.Proofs.YtkobjjadojpjfaaW.PrintWords Go.Proofs.YtkobjjadojpjfaaW.PrintLast Go.Proofs.YtkobjjadojpjfaaW.PrintMore
attribute [local go_sem] max2_int min2_int max_two min_two max_three min_three max_four min_four   -- for this text's walks alone
set_option linter.unusedVariables false
set_option linter.unusedSimpArgs false

/-! ### spec_CountFewest: function 99 -/
mutual
def spec_CountFewest.l0 : Nat → Int → List Int → List Int → Int → Int → Int → Int → List (S27) → Option (Int × Bool)
 | 0, _, _, _, _, _, _, _, _ => none
 | k + 1, x1, x6, x7, x8, x198102000, x198102001, x198102002, x198102003 => if 0 ≤ x1 then (if x1 < (x6.length : Int) then (if x8 ≤ (rd x6 x1) then (spec_CountFewest.l1 k x1 x6 x7 x8 (x6.length : Int) 0 x198102000 x198102001 x198102002 x198102003) else (if x1 < (x7.length : Int) then (if (rd x7 x1) > 1000000000000000 then (some (0, false)) else (some (rd x7 x1, true))) else (none))) else (none)) else (none)
def spec_CountFewest.l1 : Nat → Int → List Int → List Int → Int → Int → Int → Int → Int → Int → List (S27) → Option (Int × Bool)
 | 0, _, _, _, _, _, _, _, _, _, _ => none
 | k + 1, x1, x6, x7, x8, x40, x41, x198102000, x198102001, x198102002, x198102003 => if x41 < x40 then (if 0 ≤ x41 then (if x41 < (x6.length : Int) then (if (rd x6 x41) = x8 then (spec_CountFewest.l2 k x1 x6 x7 x8 x41 1 x40 x41 x198102000 x198102001 x198102002 x198102003) else (spec_CountFewest.l1 k x1 x6 x7 x8 x40 (wrap64 (x41 + 1)) x198102000 x198102001 x198102002 x198102003)) else (none)) else (none)) else (spec_CountFewest.l0 k x1 x6 x7 (wrap64 (x8 + 1)) x198102000 x198102001 x198102002 x198102003)
def spec_CountFewest.l2 : Nat → Int → List Int → List Int → Int → Int → Int → Int → Int → Int → Int → Int → List (S27) → Option (Int × Bool)
 | 0, _, _, _, _, _, _, _, _, _, _, _, _ => none
 | k + 1, x1, x6, x7, x8, x9, x10, x40, x41, x198102000, x198102001, x198102002, x198102003 => if x10 ≤ x198102001 then ((spec_sqThrow.f k x198102000 x198102001 x198102002 x198102003 x9 x10).bind fun t198115 => (if 0 ≤ t198115 then (if t198115 < (x6.length : Int) then (if (rd x6 t198115) = (wrap64 (x8 - 1)) then (if 0 ≤ x9 then (if x9 < (x7.length : Int) then (if t198115 < (x7.length : Int) then ((spec_l1Least.f 1000000000000001 (wrap64 ((rd x7 x9) + (rd x7 t198115)))).bind fun t198119 => (spec_CountFewest.l2 k x1 x6 (x7.set (x9 : Int).toNat t198119) x8 x9 (wrap64 (x10 + 1)) x40 x41 x198102000 x198102001 x198102002 x198102003)) else (none)) else (none)) else (none)) else (spec_CountFewest.l2 k x1 x6 x7 x8 x9 (wrap64 (x10 + 1)) x40 x41 x198102000 x198102001 x198102002 x198102003)) else (none)) else (none))) else (spec_CountFewest.l1 k x1 x6 x7 x8 x40 (wrap64 (x41 + 1)) x198102000 x198102001 x198102002 x198102003)
end
def spec_CountFewest.f (k : Nat) (a0_0 : Int) (a0_1 : Int) (a0_2 : Int) (l0_3 : List (S27)) (a1 : Int) : Option (Int × Bool) := (spec_sqAsked.f k a0_0 a0_1 a0_2 l0_3 a1).bind fun t198102 => (if t198102 = true then ((spec_sqFar.f k a0_0 a0_1 a0_2 l0_3).bind fun t198103 => (if 0 ≤ a1 then (if a1 < (t198103.length : Int) then (if (rd t198103 a1) < 0 then (some (0, true)) else (if 0 ≤ (wrap64 (a0_0 + 1)) then (if (wrap64 (a0_0 + 1) : Int).toNat ≤ 35184372088832 then ((some (List.replicate (wrap64 (a0_0 + 1) : Int).toNat 0 : List Int)).bind fun y198107 => (if 0 ≤ a0_0 then (if a0_0 < (y198107.length : Int) then (spec_CountFewest.l0 k a1 t198103 (y198107.set (a0_0 : Int).toNat 1) 1 a0_0 a0_1 a0_2 l0_3) else (none)) else (none))) else (none)) else (none))) else (none)) else (none))) else (some (0, false)))
def spec_CountFewest.T20 : Bool × List (List Nat × List Nat) := (true, [([], []), ([], []), ([], []), ([], []), ([2, 3], [2, 3]), ([4], [4]), ([], []), ([], []), ([6, 7], [6, 7]), ([8], [8]), ([5, 9], [5, 9]), ([10], [10]), ([0, 1, 0, 1, 2, 3, 4, 5, 6, 7, 8, 9, 10, 11], [0, 1]), ([12, 11, 11, 0, 1, 2, 3, 4, 5, 6, 7, 8, 9, 10, 11], [11, 12])])
def spec_CountFewest.B20 : List Nat := [0, 0, 0, 0, 12, 28, 0, 0, 192, 448, 1020, 2044, 4095, 8191]
theorem spec_CountFewest.tab20 : rtab .any (opsOf Try.f99 20) = spec_CountFewest.T20 := by kernel_rfl
theorem spec_CountFewest.bits20 : waitsOk spec_CountFewest.T20.2 spec_CountFewest.B20 = true := by kernel_rfl
set_option maxHeartbeats 8000000 in
set_option maxRecDepth 100000 in
theorem spec_CountFewest.calls (k : Nat) (a0_0 : Int) (a0_1 : Int) (a0_2 : Int) (A0_3 : Option Addr) (c0_3 : Nat) (l0_3 : List (S27)) (a1 : Int) (r1 : Int) (r2 : Bool) (w : World) (hr0_3 : Kd.C k27 w A0_3 l0_3.length l0_3) (hc0_3 : l0_3.length ≤ c0_3) (h : spec_CountFewest.f k a0_0 a0_1 a0_2 l0_3 a1 = some (r1, r2)) :
  Calls Try.prog 99 #[.agg #[.int .i64 a0_0, .int .i64 a0_1, .int .i64 a0_2, .slice A0_3 l0_3.length c0_3], .int .i64 a1] w fun e w' => e = .returned (.tuple #[.int .i64 r1, .bool r2]) ∧ Below w.heap.size w w' := by
 have hu32 := Try.underlying32
 have HR0_3 := Aside0.mk hr0_3
 have HC0_3 := Aside0.mk hc0_3
 clear hr0_3 hc0_3
 have HB := Aside0.mk (Below.refl w.heap.size w)
 have H : ((spec_sqAsked.f k a0_0 a0_1 a0_2 l0_3 a1).bind fun t198102 => (if t198102 = true then ((spec_sqFar.f k a0_0 a0_1 a0_2 l0_3).bind fun t198103 => (if 0 ≤ a1 then (if a1 < (t198103.length : Int) then (if (rd t198103 a1) < 0 then (some (0, true)) else (if 0 ≤ (wrap64 (a0_0 + 1)) then (if (wrap64 (a0_0 + 1) : Int).toNat ≤ 35184372088832 then ((some (List.replicate (wrap64 (a0_0 + 1) : Int).toNat 0 : List Int)).bind fun y198107 => (if 0 ≤ a0_0 then (if a0_0 < (y198107.length : Int) then (spec_CountFewest.l0 k a1 t198103 (y198107.set (a0_0 : Int).toNat 1) 1 a0_0 a0_1 a0_2 l0_3) else (none)) else (none))) else (none)) else (none))) else (none)) else (none))) else (some (0, false)))) = some (r1, r2) := h
 clear h
 replace H := Option.bind_eq_some_iff.mp H
 obtain ⟨t198102, A30, H⟩ := H
 replace H : (if t198102 = true then ((spec_sqFar.f k a0_0 a0_1 a0_2 l0_3).bind fun t198103 => (if 0 ≤ a1 then (if a1 < (t198103.length : Int) then (if (rd t198103 a1) < 0 then (some (0, true)) else (if 0 ≤ (wrap64 (a0_0 + 1)) then (if (wrap64 (a0_0 + 1) : Int).toNat ≤ 35184372088832 then ((some (List.replicate (wrap64 (a0_0 + 1) : Int).toNat 0 : List Int)).bind fun y198107 => (if 0 ≤ a0_0 then (if a0_0 < (y198107.length : Int) then (spec_CountFewest.l0 k a1 t198103 (y198107.set (a0_0 : Int).toNat 1) 1 a0_0 a0_1 a0_2 l0_3) else (none)) else (none))) else (none)) else (none))) else (none)) else (none))) else (some (0, false))) = some (r1, r2) := H
 have A3 := Aside0.mk A30
 clear A30
 by_cases c4 : t198102 = true
 ·subst c4
  have H1 : ((spec_sqFar.f k a0_0 a0_1 a0_2 l0_3).bind fun t198103 => (if 0 ≤ a1 then (if a1 < (t198103.length : Int) then (if (rd t198103 a1) < 0 then (some (0, true)) else (if 0 ≤ (wrap64 (a0_0 + 1)) then (if (wrap64 (a0_0 + 1) : Int).toNat ≤ 35184372088832 then ((some (List.replicate (wrap64 (a0_0 + 1) : Int).toNat 0 : List Int)).bind fun y198107 => (if 0 ≤ a0_0 then (if a0_0 < (y198107.length : Int) then (spec_CountFewest.l0 k a1 t198103 (y198107.set (a0_0 : Int).toNat 1) 1 a0_0 a0_1 a0_2 l0_3) else (none)) else (none))) else (none)) else (none))) else (none)) else (none))) = some (r1, r2) := by rw [if_pos rfl] at H; exact H
  clear H
  have H := H1
  clear H1
  replace H := Option.bind_eq_some_iff.mp H
  obtain ⟨t198103, A50, H⟩ := H
  replace H : (if 0 ≤ a1 then (if a1 < (t198103.length : Int) then (if (rd t198103 a1) < 0 then (some (0, true)) else (if 0 ≤ (wrap64 (a0_0 + 1)) then (if (wrap64 (a0_0 + 1) : Int).toNat ≤ 35184372088832 then ((some (List.replicate (wrap64 (a0_0 + 1) : Int).toNat 0 : List Int)).bind fun y198107 => (if 0 ≤ a0_0 then (if a0_0 < (y198107.length : Int) then (spec_CountFewest.l0 k a1 t198103 (y198107.set (a0_0 : Int).toNat 1) 1 a0_0 a0_1 a0_2 l0_3) else (none)) else (none))) else (none)) else (none))) else (none)) else (none)) = some (r1, r2) := H
  have A5 := Aside0.mk A50
  clear A50
  by_cases c6 : 0 ≤ a1
  ·rw [if_pos c6] at H
   have c6b0 : decide (0 ≤ a1) = true := decide_eq_true c6
   clear c6
   by_cases c7 : a1 < (t198103.length : Int)
   ·rw [if_pos c7] at H
    have c7b0 : decide (a1 < (t198103.length : Int)) = true := decide_eq_true c7
    clear c7
    by_cases c8 : (rd t198103 a1) < 0
    ·rw [if_pos c8] at H
     have c8b0 : decide ((rd t198103 a1) < 0) = true := decide_eq_true c8
     clear c8
     simp only [Option.some.injEq, Prod.mk.injEq] at H
     obtain ⟨rfl, rfl⟩ := H
     go_enter Try.func99, Try.ntmps99
     go_wp2_with (first | ((with_reducible refine gate_dst (N := 2) rfl ?_); refine box_event ?hg (N := 2) ?hd (cs := #[.int .i64 a0_0, .int .i64 a0_1, .int .i64 a0_2, .slice A0_3 l0_3.length c0_3]) (t := 32) ?hr ?_; (case hd => rfl); (case hg => rfl); (case hr => first | (go_simp; done) | (go_simp; rfl)); intro gb198101 hg w9 hbox hb; have n0_ := Aside0.mk (below_step (by repeat (first | (with_reducible first | exact HB.out | apply below_alloc | apply pw_below_drewN | apply below_drew1) | exact HB.out)) hb); have n1_ := Aside0.mk (hbox); have n2_ := Aside0.mk ((by rw [hg]; exact (below_size (by repeat (first | (with_reducible first | exact HB.out | apply below_alloc | apply pw_below_drewN | apply below_drew1) | exact HB.out))) : w.heap.size ≤ gb198101)); have n3_ := Aside0.mk ((by rw [hg]; exact (below_size (by repeat (first | (with_reducible first | exact HB.out | apply below_alloc | apply pw_below_drewN | apply below_drew1) | exact HB.out))) : w.heap.size ≤ gb198101)); clear HB; have HB := n0_; have BK198101 := n1_; have GW198101 := n2_; have GE198101 := n3_; clear n0_ n1_ n2_ n3_; clear hb hbox hg; have hcz10_0 : w9.cell? ⟨gb198101, 0, none⟩ = some (.int .i64 a0_0) := (blk_cell BK198101.out 0).trans rfl; have hcz10_1 : w9.cell? ⟨gb198101, 1, none⟩ = some (.int .i64 a0_1) := (blk_cell BK198101.out 1).trans rfl; have hcz10_2 : w9.cell? ⟨gb198101, 2, none⟩ = some (.int .i64 a0_2) := (blk_cell BK198101.out 2).trans rfl; have hcz10_3 : w9.cell? ⟨gb198101, 3, none⟩ = some (.slice A0_3 l0_3.length c0_3) := (blk_cell BK198101.out 3).trans rfl; have hfz10_0 := blk_frozen BK198101.out 0; have hfz10_1 := blk_frozen BK198101.out 1; have hfz10_2 := blk_frozen BK198101.out 2; have hfz10_3 := blk_frozen BK198101.out 3) | ((with_reducible refine gate_callee (f := 135) rfl ?_); refine goesL_ (some 14) rfl rfl Try.func135 (by kernel_rfl) rfl #[.agg #[.int .i64 a0_0, .int .i64 a0_1, .int .i64 a0_2, .slice A0_3 l0_3.length c0_3], .int .i64 a1] rfl (by (try simp only [List.map_toArray, List.map_cons, List.map_nil]); first | done | rfl | (simp only [List.length_drop, List.length_take]; rfl)) ?_; (with_reducible refine (spec_sqAsked.calls k a0_0 a0_1 a0_2 _ _ l0_3 a1 true _ ?side1 ?side2 A3.out).mono ?_); (case side1 => repeat (first | exact (Kd.C_below HR0_3.out HB.out) | (with_reducible refine Kd.C_alloc ?_ _) | (with_reducible refine Kd.C_drewN ?_ _) | (with_reducible refine Kd.C_drew ?_))); (case side2 => exact HC0_3.out); rintro e w11 ⟨rfl, hb⟩; refine ⟨_, rfl, ?_⟩; have n0_ := Aside0.mk (blk_below (g := gb198101) (o := .cells #[.int .i64 a0_0, .int .i64 a0_1, .int .i64 a0_2, .slice A0_3 l0_3.length c0_3] 32 (0, 0)) (by (with_reducible repeat (first | refine blk_drewN ?_ _ | refine blk_drew ?_ | refine blk_alloc ?_ _)); exact BK198101.out) hb); have n1_ := Aside0.mk (below_step (by repeat (first | (with_reducible first | exact HB.out | apply below_alloc | apply pw_below_drewN | apply below_drew1 | refine below_set ?_ GE198101.out) | exact HB.out)) hb); clear BK198101; clear HB; have BK198101 := n0_; have HB := n1_; clear n0_ n1_; (try clear hb); (try clear hb2); (try clear hk); (try clear hi); have hcz12_0 : w11.cell? ⟨gb198101, 0, none⟩ = some (.int .i64 a0_0) := (blk_cell BK198101.out 0).trans rfl; have hcz12_1 : w11.cell? ⟨gb198101, 1, none⟩ = some (.int .i64 a0_1) := (blk_cell BK198101.out 1).trans rfl; have hcz12_2 : w11.cell? ⟨gb198101, 2, none⟩ = some (.int .i64 a0_2) := (blk_cell BK198101.out 2).trans rfl; have hcz12_3 : w11.cell? ⟨gb198101, 3, none⟩ = some (.slice A0_3 l0_3.length c0_3) := (blk_cell BK198101.out 3).trans rfl; have hfz12_0 := blk_frozen BK198101.out 0; have hfz12_1 := blk_frozen BK198101.out 1; have hfz12_2 := blk_frozen BK198101.out 2; have hfz12_3 := blk_frozen BK198101.out 3) | ((with_reducible refine gate_callee (f := 127) rfl ?_); refine goesL_ (some 17) rfl rfl Try.func127 (by kernel_rfl) rfl #[.agg #[.int .i64 a0_0, .int .i64 a0_1, .int .i64 a0_2, .slice A0_3 l0_3.length c0_3]] rfl (by (try simp only [List.map_toArray, List.map_cons, List.map_nil]); first | done | rfl | (simp only [List.length_drop, List.length_take]; rfl)) ?_; (with_reducible refine (spec_sqFar.calls k a0_0 a0_1 a0_2 _ _ l0_3 t198103 _ ?side1 ?side2 A5.out).mono ?_); (case side1 => repeat (first | exact (Kd.C_below HR0_3.out HB.out) | (with_reducible refine Kd.C_alloc ?_ _) | (with_reducible refine Kd.C_drewN ?_ _) | (with_reducible refine Kd.C_drew ?_))); (case side2 => exact HC0_3.out); rintro e w13 ⟨v198104, rfl, ho0, hb⟩; refine ⟨_, rfl, ?_⟩; have n0_ := Aside0.mk (Kd.R_lower ho0 (below_size (by repeat (first | (with_reducible first | exact HB.out | apply below_alloc | apply pw_below_drewN | apply below_drew1 | refine below_set ?_ GE198101.out) | exact HB.out)))); have n1_ := Aside0.mk (blk_below (g := gb198101) (o := .cells #[.int .i64 a0_0, .int .i64 a0_1, .int .i64 a0_2, .slice A0_3 l0_3.length c0_3] 32 (0, 0)) (by (with_reducible repeat (first | refine blk_drewN ?_ _ | refine blk_drew ?_ | refine blk_alloc ?_ _)); exact BK198101.out) hb); have n2_ := Aside0.mk (below_step (by repeat (first | (with_reducible first | exact HB.out | apply below_alloc | apply pw_below_drewN | apply below_drew1 | refine below_set ?_ GE198101.out) | exact HB.out)) hb); clear BK198101; clear HB; have HO198105 := n0_; have BK198101 := n1_; have HB := n2_; clear n0_ n1_ n2_; (try clear hb); (try clear hb2); (try clear hk); (try clear hi); (try clear ho0); obtain ⟨Ao14, co14, eo14⟩ := Kd.R_slice HO198105.out; subst eo14; have p198106 : 0 ≤ (a1 : Int) := of_decide_eq_true (by first | (with_reducible assumption) | assumption); have q198106 : a1 < (t198103.length : Int) := of_decide_eq_true (by first | (with_reducible assumption) | assumption); obtain ⟨ad198106, e198106, hx198106_0⟩ := Kd.at_int (Kd.R_reads' HO198105.out).2.2 a1 p198106 q198106; cases e198106; replace p198106 := eq_true p198106; replace q198106 := eq_true q198106))
     go_ret2
     exact ⟨by first | rfl | (simp [errW_none, errW_some] <;> rfl) | (simp [*, errW_none, errW_some] <;> rfl), by repeat (first | (with_reducible first | exact HB.out | apply below_alloc | apply pw_below_drewN | apply below_drew1 | refine below_set ?_ GE198101.out) | exact HB.out)⟩
    ·rw [if_neg c8] at H
     have c8b0 : decide ((rd t198103 a1) < 0) = false := decide_eq_false c8
     clear c8
     try clear hji2w
     try clear hji2
     try clear hji19w
     try clear hji19
     try clear hji2w
     try clear hji2
     try clear hji19w
     try clear hji19
     try clear hji4w
     try clear hji4
     try clear hji17w
     try clear hji17
     try clear hji3w
     try clear hji3
     try clear hji3w
     try clear hji3
     try clear hji3w
     try clear hji3
     try clear hji3w
     try clear hji3
     obtain ⟨ji15, hji15⟩ : ∃ j_ : Int, (wrap64 (a0_0 + 1)) = j_ := ⟨_, rfl⟩
     replace H : (if 0 ≤ (ji15) then (if (ji15 : Int).toNat ≤ 35184372088832 then ((some (List.replicate (ji15 : Int).toNat 0 : List Int)).bind fun y198107 => (if 0 ≤ a0_0 then (if a0_0 < (y198107.length : Int) then (spec_CountFewest.l0 k a1 t198103 (y198107.set (a0_0 : Int).toNat 1) 1 a0_0 a0_1 a0_2 l0_3) else (none)) else (none))) else (none)) else (none)) = some (r1, r2) := by first | (rw [hji15] at H; exact H) | (simp only [hji15] at H ⊢; exact H)
     (try rw [hji15] at A3)
     (try rw [hji15] at A5)
     have hji15w : (IntKind.i64.wrap (a0_0 + 1)) = ji15 := (i64_w _).trans hji15
     by_cases c16 : 0 ≤ (ji15)
     ·rw [if_pos c16] at H
      have c16b0 := eq_true c16
      have c16b1 : decide (0 ≤ (ji15)) = true := decide_eq_true c16
      clear c16
      by_cases c17 : (ji15 : Int).toNat ≤ 35184372088832
      ·rw [if_pos c17] at H
       have c17b0 := eq_true c17
       have c17b1 : decide ((ji15 : Int).toNat ≤ 35184372088832) = true := decide_eq_true c17
       clear c17
       obtain ⟨y198107, hy198107⟩ : ∃ y_ : List Int, y_ = (List.replicate (ji15 : Int).toNat 0) := ⟨_, rfl⟩
       replace H : (if 0 ≤ a0_0 then (if a0_0 < (y198107.length : Int) then (spec_CountFewest.l0 k a1 t198103 (y198107.set (a0_0 : Int).toNat 1) 1 a0_0 a0_1 a0_2 l0_3) else (none)) else (none)) = some (r1, r2) := by first | (rw [hy198107]; with_reducible exact H) | (have H2_ := (Option.bind_some _ _).symm.trans H; rw [hy198107]; with_reducible exact H2_) | (have H2_ := (Option.bind_some _ _).symm.trans H; with_reducible exact H2_) | with_reducible exact H | (rw [hy198107]; exact H) | exact H
       have Ny198107 := Aside0.mk hy198107
       clear hy198107
       by_cases c18 : 0 ≤ a0_0
       ·rw [if_pos c18] at H
        have c18b0 : decide (0 ≤ a0_0) = true := decide_eq_true c18
        clear c18
        by_cases c19 : a0_0 < (y198107.length : Int)
        ·rw [if_pos c19] at H
         have c19b0 : decide (a0_0 < (y198107.length : Int)) = true := decide_eq_true c19
         clear c19
         obtain ⟨y198110, hy198110⟩ : ∃ y_ : List Int, y_ = (y198107.set (a0_0 : Int).toNat 1) := ⟨_, rfl⟩
         replace H : (spec_CountFewest.l0 k a1 t198103 y198110 1 a0_0 a0_1 a0_2 l0_3) = some (r1, r2) := by first | (rw [hy198110]; with_reducible exact H) | (have H2_ := (Option.bind_some _ _).symm.trans H; rw [hy198110]; with_reducible exact H2_) | (have H2_ := (Option.bind_some _ _).symm.trans H; with_reducible exact H2_) | with_reducible exact H | (rw [hy198110]; exact H) | exact H
         have Ny198110 := Aside0.mk hy198110
         clear hy198110
         have H' := Aside0.mk H
         clear H
         go_enter Try.func99, Try.ntmps99
         go_wp2_with (first | ((with_reducible refine gate_dst (N := 2) rfl ?_); refine box_event ?hg (N := 2) ?hd (cs := #[.int .i64 a0_0, .int .i64 a0_1, .int .i64 a0_2, .slice A0_3 l0_3.length c0_3]) (t := 32) ?hr ?_; (case hd => rfl); (case hg => rfl); (case hr => first | (go_simp; done) | (go_simp; rfl)); intro gb198101 hg w21 hbox hb; have n0_ := Aside0.mk (below_step (by repeat (first | (with_reducible first | exact HB.out | apply below_alloc | apply pw_below_drewN | apply below_drew1) | exact HB.out)) hb); have n1_ := Aside0.mk (hbox); have n2_ := Aside0.mk ((by rw [hg]; exact (below_size (by repeat (first | (with_reducible first | exact HB.out | apply below_alloc | apply pw_below_drewN | apply below_drew1) | exact HB.out))) : w.heap.size ≤ gb198101)); have n3_ := Aside0.mk ((by rw [hg]; exact (below_size (by repeat (first | (with_reducible first | exact HB.out | apply below_alloc | apply pw_below_drewN | apply below_drew1) | exact HB.out))) : w.heap.size ≤ gb198101)); clear HB; have HB := n0_; have BK198101 := n1_; have GW198101 := n2_; have GE198101 := n3_; clear n0_ n1_ n2_ n3_; clear hb hbox hg; have hcz22_0 : w21.cell? ⟨gb198101, 0, none⟩ = some (.int .i64 a0_0) := (blk_cell BK198101.out 0).trans rfl; have hcz22_1 : w21.cell? ⟨gb198101, 1, none⟩ = some (.int .i64 a0_1) := (blk_cell BK198101.out 1).trans rfl; have hcz22_2 : w21.cell? ⟨gb198101, 2, none⟩ = some (.int .i64 a0_2) := (blk_cell BK198101.out 2).trans rfl; have hcz22_3 : w21.cell? ⟨gb198101, 3, none⟩ = some (.slice A0_3 l0_3.length c0_3) := (blk_cell BK198101.out 3).trans rfl; have hfz22_0 := blk_frozen BK198101.out 0; have hfz22_1 := blk_frozen BK198101.out 1; have hfz22_2 := blk_frozen BK198101.out 2; have hfz22_3 := blk_frozen BK198101.out 3) | ((with_reducible refine gate_callee (f := 135) rfl ?_); refine goesL_ (some 14) rfl rfl Try.func135 (by kernel_rfl) rfl #[.agg #[.int .i64 a0_0, .int .i64 a0_1, .int .i64 a0_2, .slice A0_3 l0_3.length c0_3], .int .i64 a1] rfl (by (try simp only [List.map_toArray, List.map_cons, List.map_nil]); first | done | rfl | (simp only [List.length_drop, List.length_take]; rfl)) ?_; (with_reducible refine (spec_sqAsked.calls k a0_0 a0_1 a0_2 _ _ l0_3 a1 true _ ?side1 ?side2 A3.out).mono ?_); (case side1 => repeat (first | exact (Kd.C_below HR0_3.out HB.out) | (with_reducible refine Kd.C_alloc ?_ _) | (with_reducible refine Kd.C_drewN ?_ _) | (with_reducible refine Kd.C_drew ?_))); (case side2 => exact HC0_3.out); rintro e w23 ⟨rfl, hb⟩; refine ⟨_, rfl, ?_⟩; have n0_ := Aside0.mk (blk_below (g := gb198101) (o := .cells #[.int .i64 a0_0, .int .i64 a0_1, .int .i64 a0_2, .slice A0_3 l0_3.length c0_3] 32 (0, 0)) (by (with_reducible repeat (first | refine blk_drewN ?_ _ | refine blk_drew ?_ | refine blk_alloc ?_ _)); exact BK198101.out) hb); have n1_ := Aside0.mk (below_step (by repeat (first | (with_reducible first | exact HB.out | apply below_alloc | apply pw_below_drewN | apply below_drew1 | refine below_set ?_ GE198101.out) | exact HB.out)) hb); clear BK198101; clear HB; have BK198101 := n0_; have HB := n1_; clear n0_ n1_; (try clear hb); (try clear hb2); (try clear hk); (try clear hi); have hcz24_0 : w23.cell? ⟨gb198101, 0, none⟩ = some (.int .i64 a0_0) := (blk_cell BK198101.out 0).trans rfl; have hcz24_1 : w23.cell? ⟨gb198101, 1, none⟩ = some (.int .i64 a0_1) := (blk_cell BK198101.out 1).trans rfl; have hcz24_2 : w23.cell? ⟨gb198101, 2, none⟩ = some (.int .i64 a0_2) := (blk_cell BK198101.out 2).trans rfl; have hcz24_3 : w23.cell? ⟨gb198101, 3, none⟩ = some (.slice A0_3 l0_3.length c0_3) := (blk_cell BK198101.out 3).trans rfl; have hfz24_0 := blk_frozen BK198101.out 0; have hfz24_1 := blk_frozen BK198101.out 1; have hfz24_2 := blk_frozen BK198101.out 2; have hfz24_3 := blk_frozen BK198101.out 3) | ((with_reducible refine gate_callee (f := 127) rfl ?_); refine goesL_ (some 17) rfl rfl Try.func127 (by kernel_rfl) rfl #[.agg #[.int .i64 a0_0, .int .i64 a0_1, .int .i64 a0_2, .slice A0_3 l0_3.length c0_3]] rfl (by (try simp only [List.map_toArray, List.map_cons, List.map_nil]); first | done | rfl | (simp only [List.length_drop, List.length_take]; rfl)) ?_; (with_reducible refine (spec_sqFar.calls k a0_0 a0_1 a0_2 _ _ l0_3 t198103 _ ?side1 ?side2 A5.out).mono ?_); (case side1 => repeat (first | exact (Kd.C_below HR0_3.out HB.out) | (with_reducible refine Kd.C_alloc ?_ _) | (with_reducible refine Kd.C_drewN ?_ _) | (with_reducible refine Kd.C_drew ?_))); (case side2 => exact HC0_3.out); rintro e w25 ⟨v198104, rfl, ho0, hb⟩; refine ⟨_, rfl, ?_⟩; have n0_ := Aside0.mk (Kd.R_lower ho0 (below_size (by repeat (first | (with_reducible first | exact HB.out | apply below_alloc | apply pw_below_drewN | apply below_drew1 | refine below_set ?_ GE198101.out) | exact HB.out)))); have n1_ := Aside0.mk (blk_below (g := gb198101) (o := .cells #[.int .i64 a0_0, .int .i64 a0_1, .int .i64 a0_2, .slice A0_3 l0_3.length c0_3] 32 (0, 0)) (by (with_reducible repeat (first | refine blk_drewN ?_ _ | refine blk_drew ?_ | refine blk_alloc ?_ _)); exact BK198101.out) hb); have n2_ := Aside0.mk (below_step (by repeat (first | (with_reducible first | exact HB.out | apply below_alloc | apply pw_below_drewN | apply below_drew1 | refine below_set ?_ GE198101.out) | exact HB.out)) hb); clear BK198101; clear HB; have HO198105 := n0_; have BK198101 := n1_; have HB := n2_; clear n0_ n1_ n2_; (try clear hb); (try clear hb2); (try clear hk); (try clear hi); (try clear ho0); obtain ⟨Ao26, co26, eo26⟩ := Kd.R_slice HO198105.out; subst eo26; have p198106 : 0 ≤ (a1 : Int) := of_decide_eq_true (by first | (with_reducible assumption) | assumption); have q198106 : a1 < (t198103.length : Int) := of_decide_eq_true (by first | (with_reducible assumption) | assumption); obtain ⟨ad198106, e198106, hx198106_0⟩ := Kd.at_int (Kd.R_reads' HO198105.out).2.2 a1 p198106 q198106; cases e198106; replace p198106 := eq_true p198106; replace q198106 := eq_true q198106; have hcz27_0 : w25.cell? ⟨gb198101, 0, none⟩ = some (.int .i64 a0_0) := (blk_cell BK198101.out 0).trans rfl; have hcz27_1 : w25.cell? ⟨gb198101, 1, none⟩ = some (.int .i64 a0_1) := (blk_cell BK198101.out 1).trans rfl; have hcz27_2 : w25.cell? ⟨gb198101, 2, none⟩ = some (.int .i64 a0_2) := (blk_cell BK198101.out 2).trans rfl; have hcz27_3 : w25.cell? ⟨gb198101, 3, none⟩ = some (.slice A0_3 l0_3.length c0_3) := (blk_cell BK198101.out 3).trans rfl; have hfz27_0 := blk_frozen BK198101.out 0; have hfz27_1 := blk_frozen BK198101.out 1; have hfz27_2 := blk_frozen BK198101.out 2; have hfz27_3 := blk_frozen BK198101.out 3) | ((with_reducible refine gate_dst (N := 26) rfl ?_); refine Kd.R_make (Kd.int .i64) _ 3 rfl (N := 26) rfl 58 _ _ rfl ji15 rfl rfl Try.underlying58 (.int .i64 0) 8 info3 rfl (by decide) (by omega) 0 (ok := fun _ => True) (okp := fun _ => True) rfl (fun _ hk => hk) trivial (of_decide_eq_true (by first | (with_reducible assumption) | assumption)) (Nat.le_trans (Nat.mul_le_mul_right _ (of_decide_eq_true (by first | (with_reducible assumption) | assumption) : ji15.toNat ≤ 35184372088832)) (by omega)) (Below.refl _ _) (Nat.le_refl _) ?_; intro v198108 w28 ho29 hb hg_ hnew_; clear hg_ hnew_; (first | rw [← Ny198107.out] at ho29 | (simp only [Int.reduceToNat] at ho29; rw [← Ny198107.out] at ho29)); have n0_ := Aside0.mk (Kd.R_elder' (by (with_reducible repeat (first | apply Kd.R_alloc | apply Kd.R_drewN | apply Kd.R_drew)); exact HO198105.out) (Kd.R_base ho29) hb); have n1_ := Aside0.mk (Kd.R_lower (Kd.R_new' ho29 (Kd.R_lt (by (with_reducible repeat (first | apply Kd.R_alloc | apply Kd.R_drewN | apply Kd.R_drew)); exact HO198105.out))) (below_size (by repeat (first | (with_reducible first | exact HB.out | apply below_alloc | apply pw_below_drewN | apply below_drew1 | refine below_set ?_ GE198101.out) | exact HB.out)))); have n2_ := Aside0.mk (blk_below (g := gb198101) (o := .cells #[.int .i64 a0_0, .int .i64 a0_1, .int .i64 a0_2, .slice A0_3 l0_3.length c0_3] 32 (0, 0)) (by (with_reducible repeat (first | refine blk_drewN ?_ _ | refine blk_drew ?_ | refine blk_alloc ?_ _)); exact BK198101.out) hb); have n3_ := Aside0.mk (below_step (by repeat (first | (with_reducible first | exact HB.out | apply below_alloc | apply pw_below_drewN | apply below_drew1 | refine below_set ?_ GE198101.out) | exact HB.out)) hb); clear HO198105; clear BK198101; clear HB; have HO198105 := n0_; have HO198109 := n1_; have BK198101 := n2_; have HB := n3_; clear n0_ n1_ n2_ n3_; clear hb ho29; have hcz30_0 : w28.cell? ⟨gb198101, 0, none⟩ = some (.int .i64 a0_0) := (blk_cell BK198101.out 0).trans rfl; have hcz30_1 : w28.cell? ⟨gb198101, 1, none⟩ = some (.int .i64 a0_1) := (blk_cell BK198101.out 1).trans rfl; have hcz30_2 : w28.cell? ⟨gb198101, 2, none⟩ = some (.int .i64 a0_2) := (blk_cell BK198101.out 2).trans rfl; have hcz30_3 : w28.cell? ⟨gb198101, 3, none⟩ = some (.slice A0_3 l0_3.length c0_3) := (blk_cell BK198101.out 3).trans rfl; have hfz30_0 := blk_frozen BK198101.out 0; have hfz30_1 := blk_frozen BK198101.out 1; have hfz30_2 := blk_frozen BK198101.out 2; have hfz30_3 := blk_frozen BK198101.out 3; have p20 : 0 ≤ (a0_0 : Int) := of_decide_eq_true (by first | (with_reducible assumption) | assumption); have q20 : (a0_0 : Int) < ((y198107.length : Int) : Int) := of_decide_eq_true (by first | (with_reducible assumption) | assumption); obtain ⟨go20, co20, eo20, gb20, gl20, cl20, HG20⟩ := Kd.R_form HO198109.out (by omega); (first | cases eo20 | (injection eo20 with ea_ en_ ec_; (first | subst ea_ | (injection ea_ with ea_; subst ea_)); subst ec_; clear en_)); have GB20 := Aside0.mk gb20; have GG20 := Aside0.mk HG20; clear gb20 gl20 HG20; obtain ⟨hx20_0, hf20_0⟩ := Kd.R_celln 0 HO198109.out (a0_0 : Int) p20 q20; replace p20 := eq_true p20; replace q20 := eq_true q20; have n_ := Aside0.mk (Kd.R_mono (ok' := (fun k_ => some k_ ≠ (.slice (some ad198106) t198103.length co26 : Value).ownBlock)) HO198109.out (fun k_ hk => hk.2)); clear HO198109; have HO198109 := n_; clear n_; obtain ⟨hy31_, hz31_⟩ := Kd.R_celln 0 HO198109.out (a0_0 : Int) (of_decide_eq_true (by first | (with_reducible assumption) | assumption)) (of_decide_eq_true (by first | (with_reducible assumption) | assumption)); have HP31 := Kd.R_putg HO198109.out (a0_0 : Int) 1) | ((with_reducible refine gate_store (t := 3) (p := 30) rfl ?_); refine store_event (t := 3) (p := 30) (v := ?vo_w32) (w1 := (w28.setCell ⟨go20, (a0_0 : Int).toNat, none⟩ (.int .i64 1))) ?hg ?ho ?hn ?hr ?_; (case ho => rfl); (case hg => rfl); (case hn => rfl); (case hr => first | (go_simp; done) | (go_simp; rfl)); intro w32 hw; have hg : w28.grownBy w32 (some go20) := (by rw [hw]; exact HP31.2); have hp_ : Kd.R (Kd.int .i64) 3 w32 w.heap.size (fun k_ => some k_ ≠ (.slice (some ad198106) t198103.length co26 : Value).ownBlock) (.slice (some ⟨go20, 0, none⟩) y198107.length co20) y198110 := (by rw [hw, Ny198110.out]; exact HP31.1); clear HP31; have n0_ := Aside0.mk (blk_grown (g := gb198101) (o := .cells #[.int .i64 a0_0, .int .i64 a0_1, .int .i64 a0_2, .slice A0_3 l0_3.length c0_3] 32 (0, 0)) (by (with_reducible repeat (first | refine blk_drewN ?_ _ | refine blk_drew ?_ | refine blk_alloc ?_ _)); exact BK198101.out) hg (Kd.R_ne HO198109.out BK198101.out (by decide))); have n1_ := Aside0.mk (Kd.R_after (v := (.slice (some ⟨go20, 0, none⟩) y198107.length co20)) (v1 := (.slice (some ⟨go20, 0, none⟩) y198107.length co20)) (ok := (fun _ => True)) (by (with_reducible repeat (first | apply Kd.R_alloc | apply Kd.R_drewN | apply Kd.R_drew)); exact HO198105.out) hg (.inl rfl)); have n2_ := Aside0.mk (hp_); have n3_ := Aside0.mk ((by rw [hw]; exact below_set (HB.out) GB20.out : Below w.heap.size w w32)); clear BK198101; clear HO198105; clear HO198109; clear HB; have BK198101 := n0_; have HO198105 := n1_; have HO198109 := n2_; have HB := n3_; clear n0_ n1_ n2_ n3_; clear hg hw hp_))
         go_loopg [8] k (fun kq v8 w' => ∃ (x7_1 : List Int) (x8_1 : Int), v8 = .int .i64 x8_1 ∧ Aside0 (spec_CountFewest.l0 kq a1 t198103 x7_1 x8_1 a0_0 a0_1 a0_2 l0_3 = some (r1, r2)) ∧ Aside0 (kq ≤ k) ∧ Aside0 (Kd.R (Kd.int .i64) 3 w' w.heap.size (fun k_ => some k_ ≠ ((.slice (some ⟨go20, 0, none⟩) y198107.length co20) : Value).ownBlock) (.slice (some ad198106) t198103.length co26) t198103) ∧ Aside0 (Kd.R (Kd.int .i64) 3 w' w.heap.size (fun k_ => some k_ ≠ ((.slice (some ad198106) t198103.length co26) : Value).ownBlock) (.slice (some ⟨go20, 0, none⟩) y198107.length co20) x7_1) ∧ Aside0 (w'.heap[gb198101]? = some (.cells #[.int .i64 a0_0, .int .i64 a0_1, .int .i64 a0_2, (.slice A0_3 l0_3.length c0_3)] 32 (0, 0))) ∧ Aside0 (Below w.heap.size w w'))
         case atStart => exact ⟨(y198110), (1), (by first | rfl | (simp; done) | (simp [*]; done)), H', ⟨Nat.le_refl _⟩, ⟨by (with_reducible repeat (first | apply Kd.R_alloc | apply Kd.R_drewN | apply Kd.R_drew)); exact Kd.R_mono HO198105.out (fun _ hk => hk.2)⟩, ⟨by (with_reducible repeat (first | apply Kd.R_alloc | apply Kd.R_drewN | apply Kd.R_drew)); exact HO198109.out⟩, ⟨by (with_reducible repeat (first | refine blk_drewN ?_ _ | refine blk_drew ?_ | refine blk_alloc ?_ _)); exact BK198101.out⟩, ⟨by repeat (first | (with_reducible first | exact HB.out | apply below_alloc | apply pw_below_drewN | apply below_drew1 | refine below_set ?_ GE198101.out) | exact HB.out)⟩⟩
         case round =>
          clear H'
          try clear c1
          try clear p1
          try clear q1
          try clear hx1
          try clear p2
          try clear q2
          try clear hx2
          try clear hf2
          try clear c4
          try clear c6
          try clear c6b0
          try clear p6
          try clear c7
          try clear c7b0
          try clear c8
          try clear c8b0
          try clear c9
          try clear c12
          try clear c13
          try clear c16
          try clear c16b0
          try clear c16b1
          try clear c17
          try clear c17b0
          try clear c17b1
          try clear c18
          try clear c18b0
          try clear c19
          try clear c19b0
          try clear p19
          try clear q19
          try clear hx19
          try clear p20
          try clear q20
          try clear hx20
          try clear hf20
          try clear hcz10_0
          try clear hcz10_1
          try clear hcz10_2
          try clear hcz10_3
          try clear hcz12_0
          try clear hcz12_1
          try clear hcz12_2
          try clear hcz12_3
          try clear hcz22_0
          try clear hcz22_1
          try clear hcz22_2
          try clear hcz22_3
          try clear hcz24_0
          try clear hcz24_1
          try clear hcz24_2
          try clear hcz24_3
          try clear hcz27_0
          try clear hcz27_1
          try clear hcz27_2
          try clear hcz27_3
          try clear hcz30_0
          try clear hcz30_1
          try clear hcz30_2
          try clear hcz30_3
          try clear hfz10_0
          try clear hfz10_1
          try clear hfz10_2
          try clear hfz10_3
          try clear hfz12_0
          try clear hfz12_1
          try clear hfz12_2
          try clear hfz12_3
          try clear hfz22_0
          try clear hfz22_1
          try clear hfz22_2
          try clear hfz22_3
          try clear hfz24_0
          try clear hfz24_1
          try clear hfz24_2
          try clear hfz24_3
          try clear hfz27_0
          try clear hfz27_1
          try clear hfz27_2
          try clear hfz27_3
          try clear hfz30_0
          try clear hfz30_1
          try clear hfz30_2
          try clear hfz30_3
          try clear hx198106_0
          try clear hx20_0
          try clear p198106
          try clear p20
          try clear q198106
          try clear q20
          obtain ⟨x7_1, x8_1, rfl, HA, HK1, HO_6, HO_7, BK198101, HB⟩ := hrel
          have hl7_1 := (Kd.R_reads' HO_7.out).1
          rw [hl7_1] at HO_7
          (try simp only [hl7_1])
          (try simp only [hl7_1] at BK198101)
          (try simp only [hl7_1] at HO_6)
          cases gk with
          | zero => exact absurd HA.out (by simp [spec_CountFewest.l0])
          | succ k1 =>
           have H := HA.out
           clear HA
           simp only [spec_CountFewest.l0] at H
           by_cases c33 : 0 ≤ a1
           ·rw [if_pos c33] at H
            have c33b0 : decide (0 ≤ a1) = true := decide_eq_true c33
            clear c33
            by_cases c34 : a1 < (t198103.length : Int)
            ·rw [if_pos c34] at H
             have c34b0 : decide (a1 < (t198103.length : Int)) = true := decide_eq_true c34
             (try (have c34b0z := c34b0; rw [hl7_1] at c34b0z))
             clear c34
             by_cases c35 : x8_1 ≤ (rd t198103 a1)
             ·rw [if_pos c35] at H
              have c35b0 : decide (x8_1 ≤ (rd t198103 a1)) = true := decide_eq_true c35
              clear c35
              have H' := Aside0.mk H
              clear H
              have p198111 : 0 ≤ (a1 : Int) := of_decide_eq_true (by first | (with_reducible assumption) | assumption)
              have q198111 : a1 < (t198103.length : Int) := of_decide_eq_true (by first | (with_reducible assumption) | assumption)
              obtain ⟨ad198111, e198111, hx198111_0⟩ := Kd.at_int (Kd.R_reads' HO_6.out).2.2 a1 p198111 q198111
              obtain rfl : ad198106 = ad198111 := (by injection e198111)
              replace p198111 := eq_true p198111
              replace q198111 := eq_true q198111
              go_wp2
              go_loopg [41] k1 (fun kq v41 w' => ∃ (x7_2 : List Int) (x41_2 : Int), v41 = .int .i64 x41_2 ∧ Aside0 (spec_CountFewest.l1 kq a1 t198103 x7_2 x8_1 (t198103.length : Int) x41_2 a0_0 a0_1 a0_2 l0_3 = some (r1, r2)) ∧ Aside0 (kq ≤ k1) ∧ Aside0 (Kd.R (Kd.int .i64) 3 w' w.heap.size (fun k_ => some k_ ≠ ((.slice (some ⟨go20, 0, none⟩) x7_1.length co20) : Value).ownBlock) (.slice (some ad198106) t198103.length co26) t198103) ∧ Aside0 (Kd.R (Kd.int .i64) 3 w' w.heap.size (fun k_ => some k_ ≠ ((.slice (some ad198106) t198103.length co26) : Value).ownBlock) (.slice (some ⟨go20, 0, none⟩) x7_1.length co20) x7_2) ∧ Aside0 (w'.heap[gb198101]? = some (.cells #[.int .i64 a0_0, .int .i64 a0_1, .int .i64 a0_2, (.slice A0_3 l0_3.length c0_3)] 32 (0, 0))) ∧ Aside0 (Below w.heap.size w w'))
              case atStart => exact ⟨(x7_1), (0), (by first | rfl | (simp; done) | (simp [*]; done)), H', ⟨Nat.le_refl _⟩, ⟨by (try simp only [hl7_1]); (with_reducible repeat (first | apply Kd.R_alloc | apply Kd.R_drewN | apply Kd.R_drew)); exact HO_6.out⟩, ⟨by (try simp only [hl7_1]); (with_reducible repeat (first | apply Kd.R_alloc | apply Kd.R_drewN | apply Kd.R_drew)); exact HO_7.out⟩, ⟨by (try simp only [hl7_1]); (with_reducible repeat (first | refine blk_drewN ?_ _ | refine blk_drew ?_ | refine blk_alloc ?_ _)); exact BK198101.out⟩, ⟨by repeat (first | (with_reducible first | exact HB.out | apply below_alloc | apply pw_below_drewN | apply below_drew1 | refine below_set ?_ GE198101.out) | exact HB.out)⟩⟩
              case round =>
               clear H'
               try clear c1
               try clear p1
               try clear q1
               try clear hx1
               try clear p2
               try clear q2
               try clear hx2
               try clear hf2
               try clear c3
               try clear c4
               try clear c6
               try clear c6b0
               try clear p6
               try clear c7
               try clear c7b0
               try clear c8
               try clear c8b0
               try clear c9
               try clear c12
               try clear c13
               try clear c16
               try clear c16b0
               try clear c16b1
               try clear c17
               try clear c17b0
               try clear c17b1
               try clear c18
               try clear c18b0
               try clear c19
               try clear c19b0
               try clear p19
               try clear q19
               try clear hx19
               try clear p20
               try clear q20
               try clear hx20
               try clear hf20
               try clear c33
               try clear c33b0
               try clear c34
               try clear c34b0
               try clear c35
               try clear c35b0
               try clear hcz10_0
               try clear hcz10_1
               try clear hcz10_2
               try clear hcz10_3
               try clear hcz12_0
               try clear hcz12_1
               try clear hcz12_2
               try clear hcz12_3
               try clear hcz22_0
               try clear hcz22_1
               try clear hcz22_2
               try clear hcz22_3
               try clear hcz24_0
               try clear hcz24_1
               try clear hcz24_2
               try clear hcz24_3
               try clear hcz27_0
               try clear hcz27_1
               try clear hcz27_2
               try clear hcz27_3
               try clear hcz30_0
               try clear hcz30_1
               try clear hcz30_2
               try clear hcz30_3
               try clear hfz10_0
               try clear hfz10_1
               try clear hfz10_2
               try clear hfz10_3
               try clear hfz12_0
               try clear hfz12_1
               try clear hfz12_2
               try clear hfz12_3
               try clear hfz22_0
               try clear hfz22_1
               try clear hfz22_2
               try clear hfz22_3
               try clear hfz24_0
               try clear hfz24_1
               try clear hfz24_2
               try clear hfz24_3
               try clear hfz27_0
               try clear hfz27_1
               try clear hfz27_2
               try clear hfz27_3
               try clear hfz30_0
               try clear hfz30_1
               try clear hfz30_2
               try clear hfz30_3
               try clear hx198106_0
               try clear hx198111_0
               try clear hx20_0
               try clear p1
               try clear p19
               try clear p198106
               try clear p198111
               try clear p2
               try clear p20
               try clear p6
               try clear q1
               try clear q19
               try clear q198106
               try clear q198111
               try clear q2
               try clear q20
               obtain ⟨x7_2, x41_2, rfl, HA, HK2, HO_6, HO_7, BK198101, HB⟩ := hrel
               have hl7_2 := (Kd.R_reads' HO_7.out).1
               rw [hl7_2] at HO_7
               (try simp only [hl7_2])
               (try simp only [hl7_2] at BK198101)
               (try simp only [hl7_2] at HO_6)
               cases gk with
               | zero => exact absurd HA.out (by simp [spec_CountFewest.l1])
               | succ k2 =>
                have H := HA.out
                clear HA
                simp only [spec_CountFewest.l1] at H
                by_cases c36 : x41_2 < (t198103.length : Int)
                ·rw [if_pos c36] at H
                 have c36b0 : decide (x41_2 < (t198103.length : Int)) = true := decide_eq_true c36
                 (try (have c36b0z := c36b0; rw [hl7_1] at c36b0z))
                 (try (have c36b0z := c36b0; rw [hl7_2] at c36b0z))
                 clear c36
                 by_cases c37 : 0 ≤ x41_2
                 ·rw [if_pos c37] at H
                  have c37b0 : decide (0 ≤ x41_2) = true := decide_eq_true c37
                  clear c37
                  by_cases c38 : x41_2 < (t198103.length : Int)
                  ·rw [if_pos c38] at H
                   have c38b0 : decide (x41_2 < (t198103.length : Int)) = true := decide_eq_true c38
                   (try (have c38b0z := c38b0; rw [hl7_1] at c38b0z))
                   (try (have c38b0z := c38b0; rw [hl7_2] at c38b0z))
                   clear c38
                   by_cases c39 : (rd t198103 x41_2) = x8_1
                   ·rw [if_pos c39] at H
                    have c39b0 : ((rd t198103 x41_2) == x8_1) = true := beq_iff_eq.mpr c39
                    have c39b1 : ((rd t198103 x41_2) != x8_1) = false := bne_eq_false_iff_eq.mpr c39
                    clear c39
                    have H' := Aside0.mk H
                    clear H
                    have p198114 : 0 ≤ (x41_2 : Int) := of_decide_eq_true (by first | (with_reducible assumption) | assumption)
                    have q198114 : x41_2 < (t198103.length : Int) := of_decide_eq_true (by first | (with_reducible assumption) | assumption)
                    obtain ⟨ad198114, e198114, hx198114_0⟩ := Kd.at_int (Kd.R_reads' HO_6.out).2.2 x41_2 p198114 q198114
                    obtain rfl : ad198106 = ad198114 := (by injection e198114)
                    replace p198114 := eq_true p198114
                    replace q198114 := eq_true q198114
                    go_wp2
                    go_loopg [10] k2 (fun kq v10 w' => ∃ (x7_3 : List Int) (x10_3 : Int), v10 = .int .i64 x10_3 ∧ Aside0 (spec_CountFewest.l2 kq a1 t198103 x7_3 x8_1 x41_2 x10_3 (t198103.length : Int) x41_2 a0_0 a0_1 a0_2 l0_3 = some (r1, r2)) ∧ Aside0 (kq ≤ k2) ∧ Aside0 (Kd.R (Kd.int .i64) 3 w' w.heap.size (fun k_ => some k_ ≠ ((.slice (some ⟨go20, 0, none⟩) x7_2.length co20) : Value).ownBlock) (.slice (some ad198106) t198103.length co26) t198103) ∧ Aside0 (Kd.R (Kd.int .i64) 3 w' w.heap.size (fun k_ => some k_ ≠ ((.slice (some ad198106) t198103.length co26) : Value).ownBlock) (.slice (some ⟨go20, 0, none⟩) x7_2.length co20) x7_3) ∧ Aside0 (w'.heap[gb198101]? = some (.cells #[.int .i64 a0_0, .int .i64 a0_1, .int .i64 a0_2, (.slice A0_3 l0_3.length c0_3)] 32 (0, 0))) ∧ Aside0 (Below w.heap.size w w'))
                    case atStart => exact ⟨(x7_2), (1), (by first | rfl | (simp; done) | (simp [*]; done)), H', ⟨Nat.le_refl _⟩, ⟨by (try simp only [hl7_1]); (try simp only [hl7_2]); (with_reducible repeat (first | apply Kd.R_alloc | apply Kd.R_drewN | apply Kd.R_drew)); exact HO_6.out⟩, ⟨by (try simp only [hl7_1]); (try simp only [hl7_2]); (with_reducible repeat (first | apply Kd.R_alloc | apply Kd.R_drewN | apply Kd.R_drew)); exact HO_7.out⟩, ⟨by (try simp only [hl7_1]); (try simp only [hl7_2]); (with_reducible repeat (first | refine blk_drewN ?_ _ | refine blk_drew ?_ | refine blk_alloc ?_ _)); exact BK198101.out⟩, ⟨by repeat (first | (with_reducible first | exact HB.out | apply below_alloc | apply pw_below_drewN | apply below_drew1 | refine below_set ?_ GE198101.out) | exact HB.out)⟩⟩
                    case round =>
                     clear H'
                     try clear c1
                     try clear p1
                     try clear q1
                     try clear hx1
                     try clear p2
                     try clear q2
                     try clear hx2
                     try clear hf2
                     try clear c3
                     try clear c4
                     try clear c6
                     try clear c6b0
                     try clear p6
                     try clear c7
                     try clear c7b0
                     try clear c8
                     try clear c8b0
                     try clear c9
                     try clear c12
                     try clear c13
                     try clear c16
                     try clear c16b0
                     try clear c16b1
                     try clear c17
                     try clear c17b0
                     try clear c17b1
                     try clear c18
                     try clear c18b0
                     try clear c19
                     try clear c19b0
                     try clear p19
                     try clear q19
                     try clear hx19
                     try clear p20
                     try clear q20
                     try clear hx20
                     try clear hf20
                     try clear c33
                     try clear c33b0
                     try clear c34
                     try clear c34b0
                     try clear c35
                     try clear c35b0
                     try clear c36
                     try clear c36b0
                     try clear c37
                     try clear c37b0
                     try clear c38
                     try clear c38b0
                     try clear c39
                     try clear c39b0
                     try clear c39b1
                     try clear hcz10_0
                     try clear hcz10_1
                     try clear hcz10_2
                     try clear hcz10_3
                     try clear hcz12_0
                     try clear hcz12_1
                     try clear hcz12_2
                     try clear hcz12_3
                     try clear hcz22_0
                     try clear hcz22_1
                     try clear hcz22_2
                     try clear hcz22_3
                     try clear hcz24_0
                     try clear hcz24_1
                     try clear hcz24_2
                     try clear hcz24_3
                     try clear hcz27_0
                     try clear hcz27_1
                     try clear hcz27_2
                     try clear hcz27_3
                     try clear hcz30_0
                     try clear hcz30_1
                     try clear hcz30_2
                     try clear hcz30_3
                     try clear hfz10_0
                     try clear hfz10_1
                     try clear hfz10_2
                     try clear hfz10_3
                     try clear hfz12_0
                     try clear hfz12_1
                     try clear hfz12_2
                     try clear hfz12_3
                     try clear hfz22_0
                     try clear hfz22_1
                     try clear hfz22_2
                     try clear hfz22_3
                     try clear hfz24_0
                     try clear hfz24_1
                     try clear hfz24_2
                     try clear hfz24_3
                     try clear hfz27_0
                     try clear hfz27_1
                     try clear hfz27_2
                     try clear hfz27_3
                     try clear hfz30_0
                     try clear hfz30_1
                     try clear hfz30_2
                     try clear hfz30_3
                     try clear hx198106_0
                     try clear hx198111_0
                     try clear hx198114_0
                     try clear hx20_0
                     try clear p1
                     try clear p19
                     try clear p198106
                     try clear p198111
                     try clear p198114
                     try clear p2
                     try clear p20
                     try clear p6
                     try clear q1
                     try clear q19
                     try clear q198106
                     try clear q198111
                     try clear q198114
                     try clear q2
                     try clear q20
                     obtain ⟨x7_3, x10_3, rfl, HA, HK3, HO_6, HO_7, BK198101, HB⟩ := hrel
                     have hl7_3 := (Kd.R_reads' HO_7.out).1
                     rw [hl7_3] at HO_7
                     (try simp only [hl7_3])
                     (try simp only [hl7_3] at BK198101)
                     (try simp only [hl7_3] at HO_6)
                     cases gk with
                     | zero => exact absurd HA.out (by simp [spec_CountFewest.l2])
                     | succ k3 =>
                      have H := HA.out
                      clear HA
                      simp only [spec_CountFewest.l2] at H
                      by_cases c40 : x10_3 ≤ a0_1
                      ·rw [if_pos c40] at H
                       have c40b0 : decide (x10_3 ≤ a0_1) = true := decide_eq_true c40
                       clear c40
                       replace H := Option.bind_eq_some_iff.mp H
                       obtain ⟨t198115, A410, H⟩ := H
                       replace H : (if 0 ≤ t198115 then (if t198115 < (t198103.length : Int) then (if (rd t198103 t198115) = (wrap64 (x8_1 - 1)) then (if 0 ≤ x41_2 then (if x41_2 < (x7_3.length : Int) then (if t198115 < (x7_3.length : Int) then ((spec_l1Least.f 1000000000000001 (wrap64 ((rd x7_3 x41_2) + (rd x7_3 t198115)))).bind fun t198119 => (spec_CountFewest.l2 k3 a1 t198103 (x7_3.set (x41_2 : Int).toNat t198119) x8_1 x41_2 (wrap64 (x10_3 + 1)) (t198103.length : Int) x41_2 a0_0 a0_1 a0_2 l0_3)) else (none)) else (none)) else (none)) else (spec_CountFewest.l2 k3 a1 t198103 x7_3 x8_1 x41_2 (wrap64 (x10_3 + 1)) (t198103.length : Int) x41_2 a0_0 a0_1 a0_2 l0_3)) else (none)) else (none)) = some (r1, r2) := H
                       have A41 := Aside0.mk A410
                       clear A410
                       by_cases c42 : 0 ≤ t198115
                       ·rw [if_pos c42] at H
                        have c42b0 : decide (0 ≤ t198115) = true := decide_eq_true c42
                        clear c42
                        by_cases c43 : t198115 < (t198103.length : Int)
                        ·rw [if_pos c43] at H
                         have c43b0 : decide (t198115 < (t198103.length : Int)) = true := decide_eq_true c43
                         (try (have c43b0z := c43b0; rw [hl7_1] at c43b0z))
                         (try (have c43b0z := c43b0; rw [hl7_2] at c43b0z))
                         (try (have c43b0z := c43b0; rw [hl7_3] at c43b0z))
                         clear c43
                         by_cases c44 : (rd t198103 t198115) = (wrap64 (x8_1 - 1))
                         ·rw [if_pos c44] at H
                          have c44b0 : ((rd t198103 t198115) == (wrap64 (x8_1 - 1))) = true := beq_iff_eq.mpr c44
                          have c44b1 : ((rd t198103 t198115) != (wrap64 (x8_1 - 1))) = false := bne_eq_false_iff_eq.mpr c44
                          clear c44
                          by_cases c45 : 0 ≤ x41_2
                          ·rw [if_pos c45] at H
                           have c45b0 : decide (0 ≤ x41_2) = true := decide_eq_true c45
                           clear c45
                           by_cases c46 : x41_2 < (x7_3.length : Int)
                           ·rw [if_pos c46] at H
                            have c46b0 : decide (x41_2 < (x7_3.length : Int)) = true := decide_eq_true c46
                            (try (have c46b0z := c46b0; rw [hl7_1] at c46b0z))
                            (try (have c46b0z := c46b0; rw [hl7_2] at c46b0z))
                            (try (have c46b0z := c46b0; rw [hl7_3] at c46b0z))
                            clear c46
                            by_cases c47 : t198115 < (x7_3.length : Int)
                            ·rw [if_pos c47] at H
                             have c47b0 : decide (t198115 < (x7_3.length : Int)) = true := decide_eq_true c47
                             (try (have c47b0z := c47b0; rw [hl7_1] at c47b0z))
                             (try (have c47b0z := c47b0; rw [hl7_2] at c47b0z))
                             (try (have c47b0z := c47b0; rw [hl7_3] at c47b0z))
                             clear c47
                             replace H := Option.bind_eq_some_iff.mp H
                             obtain ⟨t198119, A480, H⟩ := H
                             replace H : (spec_CountFewest.l2 k3 a1 t198103 (x7_3.set (x41_2 : Int).toNat t198119) x8_1 x41_2 (wrap64 (x10_3 + 1)) (t198103.length : Int) x41_2 a0_0 a0_1 a0_2 l0_3) = some (r1, r2) := H
                             have A48 := Aside0.mk A480
                             clear A480
                             obtain ⟨y198120, hy198120⟩ : ∃ y_ : List Int, y_ = (x7_3.set (x41_2 : Int).toNat t198119) := ⟨_, rfl⟩
                             replace H : (spec_CountFewest.l2 k3 a1 t198103 y198120 x8_1 x41_2 (wrap64 (x10_3 + 1)) (t198103.length : Int) x41_2 a0_0 a0_1 a0_2 l0_3) = some (r1, r2) := by first | (rw [hy198120]; with_reducible exact H) | (have H2_ := (Option.bind_some _ _).symm.trans H; rw [hy198120]; with_reducible exact H2_) | (have H2_ := (Option.bind_some _ _).symm.trans H; with_reducible exact H2_) | with_reducible exact H | (rw [hy198120]; exact H) | exact H
                             have Ny198120 := Aside0.mk hy198120
                             clear hy198120
                             have H' := Aside0.mk H
                             clear H
                             have hcz50_0 : wr.cell? ⟨gb198101, 0, none⟩ = some (.int .i64 a0_0) := (blk_cell BK198101.out 0).trans rfl
                             have hcz50_1 : wr.cell? ⟨gb198101, 1, none⟩ = some (.int .i64 a0_1) := (blk_cell BK198101.out 1).trans rfl
                             have hcz50_2 : wr.cell? ⟨gb198101, 2, none⟩ = some (.int .i64 a0_2) := (blk_cell BK198101.out 2).trans rfl
                             have hcz50_3 : wr.cell? ⟨gb198101, 3, none⟩ = some (.slice A0_3 l0_3.length c0_3) := (blk_cell BK198101.out 3).trans rfl
                             have hfz50_0 := blk_frozen BK198101.out 0
                             have hfz50_1 := blk_frozen BK198101.out 1
                             have hfz50_2 := blk_frozen BK198101.out 2
                             have hfz50_3 := blk_frozen BK198101.out 3
                             try go_wp2_with (first | ((with_reducible refine gate_callee (f := 137) rfl ?_); refine goesL_ (some 59) rfl rfl Try.func137 (by kernel_rfl) rfl #[.agg #[.int .i64 a0_0, .int .i64 a0_1, .int .i64 a0_2, .slice A0_3 l0_3.length c0_3], .int .i64 x41_2, .int .i64 x10_3] rfl (by (try simp only [List.map_toArray, List.map_cons, List.map_nil]); first | done | rfl | (simp only [List.length_drop, List.length_take]; rfl)) ?_; (with_reducible refine (spec_sqThrow.calls k3 a0_0 a0_1 a0_2 _ _ l0_3 x41_2 x10_3 t198115 _ ?side1 ?side2 A41.out).mono ?_); (case side1 => repeat (first | exact (Kd.C_below HR0_3.out HB.out) | (with_reducible refine Kd.C_alloc ?_ _) | (with_reducible refine Kd.C_drewN ?_ _) | (with_reducible refine Kd.C_drew ?_))); (case side2 => exact HC0_3.out); rintro e w51 ⟨rfl, hb⟩; refine ⟨_, rfl, ?_⟩; have n0_ := Aside0.mk (Kd.R_below (by (with_reducible repeat (first | apply Kd.R_alloc | apply Kd.R_drewN | apply Kd.R_drew)); exact HO_6.out) hb); have n1_ := Aside0.mk (Kd.R_below (by (with_reducible repeat (first | apply Kd.R_alloc | apply Kd.R_drewN | apply Kd.R_drew)); exact HO_7.out) hb); have n2_ := Aside0.mk (blk_below (g := gb198101) (o := .cells #[.int .i64 a0_0, .int .i64 a0_1, .int .i64 a0_2, .slice A0_3 l0_3.length c0_3] 32 (0, 0)) (by (with_reducible repeat (first | refine blk_drewN ?_ _ | refine blk_drew ?_ | refine blk_alloc ?_ _)); exact BK198101.out) hb); have n3_ := Aside0.mk (below_step (by repeat (first | (with_reducible first | exact HB.out | apply below_alloc | apply pw_below_drewN | apply below_drew1 | refine below_set ?_ GE198101.out) | exact HB.out)) hb); clear HO_6; clear HO_7; clear BK198101; clear HB; have HO_6 := n0_; have HO_7 := n1_; have BK198101 := n2_; have HB := n3_; clear n0_ n1_ n2_ n3_; (try clear hb); (try clear hb2); (try clear hk); (try clear hi); have p198116 : 0 ≤ (t198115 : Int) := of_decide_eq_true (by first | (with_reducible assumption) | assumption); have q198116 : t198115 < (t198103.length : Int) := of_decide_eq_true (by first | (with_reducible assumption) | assumption); obtain ⟨ad198116, e198116, hx198116_0⟩ := Kd.at_int (Kd.R_reads' HO_6.out).2.2 t198115 p198116 q198116; obtain rfl : ad198106 = ad198116 := (by injection e198116); replace p198116 := eq_true p198116; replace q198116 := eq_true q198116))
                             have n0_ := Aside0.mk (Kd.R_drew HO_6.out)
                             have n1_ := Aside0.mk (Kd.R_drew HO_7.out)
                             have n2_ := Aside0.mk (blk_drew BK198101.out)
                             have n3_ := Aside0.mk (below_drew1 HB.out)
                             clear HO_6
                             clear HO_7
                             clear BK198101
                             clear HB
                             have HO_6 := n0_
                             have HO_7 := n1_
                             have BK198101 := n2_
                             have HB := n3_
                             clear n0_ n1_ n2_ n3_
                             have p198117 : 0 ≤ (x41_2 : Int) := of_decide_eq_true (by first | (with_reducible assumption) | assumption)
                             have q198117 : x41_2 < (x7_3.length : Int) := of_decide_eq_true (by first | (with_reducible assumption) | assumption)
                             obtain ⟨ad198117, e198117, hx198117_0⟩ := Kd.at_int (Kd.R_reads' HO_7.out).2.2 x41_2 p198117 q198117
                             obtain rfl : (⟨go20, 0, none⟩ : Addr) = ad198117 := (by injection e198117)
                             (first | simp only [add_plain] at hx198117_0 | simp only [add_at] at hx198117_0 | simp only [Addr.add, Nat.zero_add] at hx198117_0 | skip)
                             replace p198117 := eq_true p198117
                             replace q198117 := eq_true q198117
                             have p198118 : 0 ≤ (t198115 : Int) := of_decide_eq_true (by first | (with_reducible assumption) | assumption)
                             have q198118 : t198115 < (x7_3.length : Int) := of_decide_eq_true (by first | (with_reducible assumption) | assumption)
                             obtain ⟨ad198118, e198118, hx198118_0⟩ := Kd.at_int (Kd.R_reads' HO_7.out).2.2 t198115 p198118 q198118
                             obtain rfl : (⟨go20, 0, none⟩ : Addr) = ad198118 := (by injection e198118)
                             (first | simp only [add_plain] at hx198118_0 | simp only [add_at] at hx198118_0 | simp only [Addr.add, Nat.zero_add] at hx198118_0 | skip)
                             replace p198118 := eq_true p198118
                             replace q198118 := eq_true q198118
                             refine start_ (n := 14) (S := fun w' => w'.cell? ⟨go20, (x41_2).toNat, none⟩ = some (.int .i64 (rd x7_3 x41_2)) ∧ w'.cell? ⟨go20, (t198115).toNat, none⟩ = some (.int .i64 (rd x7_3 t198115))) (ds := [13]) #[false, false, false, false, false, false, false, false, false, false, false, false, false, false] (by kernel_rfl) rfl rfl ⟨hx198117_0, hx198118_0⟩ (fun hHeld => ?_); refine with_tabW spec_CountFewest.tab20 spec_CountFewest.bits20 (fun HT_ HW_ => ?_)
                             generalize w51.drew = w52 at HO_6 HO_7 BK198101 HB hx198117_0 hx198118_0 hHeld ⊢
                             refine pure_ (i := 0) (N := some 67) (v := ?_) (a' := ?_) #[true, false, false, false, false, false, false, false, false, false, false, false, false, false] rfl rfl (any_of HT_.out (by kernel_rfl)) (fun _ _ _ h => h) (Or.inl ⟨by rfl, ?_⟩) ?_ ?_
                             rotate_left
                             ·intro w'
                              go_simp
                              with_reducible rfl
                             rotate_left
                             ·simp only [Act.put, List.setIfInBounds_toArray, List.set_cons_zero, List.set_cons_succ, i64_w, i32_w]
                              rfl
                             refine pure_ (i := 1) (N := some 68) (v := ?_) (a' := ?_) #[true, true, false, false, false, false, false, false, false, false, false, false, false, false] rfl rfl (any_of HT_.out (by kernel_rfl)) (fun _ _ _ h => h) (Or.inl ⟨by rfl, ?_⟩) ?_ ?_
                             rotate_left
                             ·intro w'
                              go_simp
                              with_reducible rfl
                             rotate_left
                             ·simp only [Act.put, List.setIfInBounds_toArray, List.set_cons_zero, List.set_cons_succ, i64_w, i32_w]
                              rfl
                             refine pure_ (i := 2) (N := some 69) (v := ?_) (a' := ?_) #[true, true, true, false, false, false, false, false, false, false, false, false, false, false] rfl rfl (any_of HT_.out (by kernel_rfl)) (fun _ _ _ h => h) (Or.inl ⟨by rfl, ?_⟩) ?_ ?_
                             rotate_left
                             ·intro w'
                              go_simp
                              with_reducible rfl
                             rotate_left
                             ·simp only [Act.put, List.setIfInBounds_toArray, List.set_cons_zero, List.set_cons_succ, i64_w, i32_w]
                              rfl
                             refine pure_ (i := 3) (N := some 70) (v := ?_) (a' := ?_) #[true, true, true, true, false, false, false, false, false, false, false, false, false, false] rfl rfl (any_of HT_.out (by kernel_rfl)) (fun _ _ _ h => h) (Or.inl ⟨by rfl, ?_⟩) ?_ ?_
                             rotate_left
                             ·intro w'
                              go_simp
                              with_reducible rfl
                             rotate_left
                             ·simp only [Act.put, List.setIfInBounds_toArray, List.set_cons_zero, List.set_cons_succ, i64_w, i32_w]
                              rfl
                             refine pure_ (i := 4) (N := some 71) (v := ?_) (a' := ?_) #[true, true, true, true, true, false, false, false, false, false, false, false, false, false] rfl rfl (any_of HT_.out (by kernel_rfl)) (fun _ _ _ h => h) (Or.inl ⟨by rfl, ?_⟩) ?_ ?_
                             rotate_left
                             ·intro w'
                              go_simp
                              with_reducible rfl
                             rotate_left
                             ·simp only [Act.put, List.setIfInBounds_toArray, List.set_cons_zero, List.set_cons_succ, i64_w, i32_w]
                              rfl
                             refine pure_ (i := 6) (N := some 73) (v := ?_) (a' := ?_) #[true, true, true, true, true, false, true, false, false, false, false, false, false, false] rfl rfl (any_of HT_.out (by kernel_rfl)) (fun _ _ _ h => h) (Or.inl ⟨by rfl, ?_⟩) ?_ ?_
                             rotate_left
                             ·intro w'
                              go_simp
                              with_reducible rfl
                             rotate_left
                             ·simp only [Act.put, List.setIfInBounds_toArray, List.set_cons_zero, List.set_cons_succ, i64_w, i32_w]
                              rfl
                             refine pure_ (i := 7) (N := some 74) (v := ?_) (a' := ?_) #[true, true, true, true, true, false, true, true, false, false, false, false, false, false] rfl rfl (any_of HT_.out (by kernel_rfl)) (fun _ _ _ h => h) (Or.inl ⟨by rfl, ?_⟩) ?_ ?_
                             rotate_left
                             ·intro w'
                              go_simp
                              with_reducible rfl
                             rotate_left
                             ·simp only [Act.put, List.setIfInBounds_toArray, List.set_cons_zero, List.set_cons_succ, i64_w, i32_w]
                              rfl
                             refine pure_ (i := 8) (N := some 75) (v := ?_) (a' := ?_) #[true, true, true, true, true, false, true, true, true, false, false, false, false, false] rfl rfl (any_of HT_.out (by kernel_rfl)) (fun _ _ _ h => h) (Or.inl ⟨by rfl, ?_⟩) ?_ ?_
                             rotate_left
                             ·intro w'
                              go_simp
                              with_reducible rfl
                             rotate_left
                             ·simp only [Act.put, List.setIfInBounds_toArray, List.set_cons_zero, List.set_cons_succ, i64_w, i32_w]
                              rfl
                             refine take_ (i := 5) (N := some 72) (v := ?_) (a' := ?_) #[true, true, true, true, true, true, true, true, true, false, false, false, false, false] rfl rfl (take_ofW HT_.out HW_.out (by kernel_rfl)) (fun _ _ _ h => h) (Or.inl ⟨by rfl, ?_⟩) hHeld ?_ ?_
                             rotate_left
                             ·rintro w' ⟨s0, s1⟩
                              go_simp
                              with_reducible rfl
                             rotate_left
                             ·simp only [Act.put, List.setIfInBounds_toArray, List.set_cons_zero, List.set_cons_succ, i64_w, i32_w]
                              rfl
                             refine take_ (i := 9) (N := some 76) (v := ?_) (a' := ?_) #[true, true, true, true, true, true, true, true, true, true, false, false, false, false] rfl rfl (take_ofW HT_.out HW_.out (by kernel_rfl)) (fun _ _ _ h => h) (Or.inl ⟨by rfl, ?_⟩) hHeld ?_ ?_
                             rotate_left
                             ·rintro w' ⟨s0, s1⟩
                              go_simp
                              with_reducible rfl
                             rotate_left
                             ·simp only [Act.put, List.setIfInBounds_toArray, List.set_cons_zero, List.set_cons_succ, i64_w, i32_w]
                              rfl
                             refine pure_ (i := 10) (N := some 77) (v := ?_) (a' := ?_) #[true, true, true, true, true, true, true, true, true, true, true, false, false, false] rfl rfl (any_of HT_.out (by kernel_rfl)) (fun _ _ _ h => h) (Or.inl ⟨by rfl, ?_⟩) ?_ ?_
                             rotate_left
                             ·intro w'
                              go_simp
                              with_reducible rfl
                             rotate_left
                             ·simp only [Act.put, List.setIfInBounds_toArray, List.set_cons_zero, List.set_cons_succ, i64_w, i32_w]
                              rfl
                             refine one_ (i := 11) (N := some 78) #[true, true, true, true, true, true, true, true, true, true, true, true, false, false] rfl rfl (one_of HT_.out (by kernel_rfl)) (by decide) (fun K hK => ?_)
                             refine goes_ Try.func171 (by kernel_rfl) rfl #[.int .i64 1000000000000001, .int .i64 (wrap64 ((rd x7_3 x41_2) + (rd x7_3 t198115)))] (by rfl) rfl rfl (by (try simp only [List.map_toArray, List.map_cons, List.map_nil]); first | done | rfl | (simp only [List.length_drop, List.length_take]; rfl)) ?_
                             with_reducible refine (spec_l1Least.calls 1000000000000001 (wrap64 ((rd x7_3 x41_2) + (rd x7_3 t198115))) t198119 _ A48.out).mono ?_
                             rintro e w' ⟨rfl, ⟨nd, rfl⟩⟩
                             refine ⟨_, rfl, ?_⟩
                             have p49 : 0 ≤ (x41_2 : Int) := of_decide_eq_true (by first | (with_reducible assumption) | assumption)
                             have q49 : (x41_2 : Int) < ((x7_3.length : Int) : Int) := of_decide_eq_true (by first | (with_reducible assumption) | assumption)
                             obtain ⟨hx49_0, hf49_0⟩ := Kd.R_celln 0 HO_7.out (x41_2 : Int) p49 q49
                             replace p49 := eq_true p49
                             replace q49 := eq_true q49
                             have HP53 := Kd.R_putn HO_7.out (x41_2 : Int) t198119
                             rw [← Ny198120.out] at HP53
                             have HQ53 := Aside0.mk HP53
                             clear HP53
                             refine hK.out _ _ ⟨hHeld.1, hHeld.2⟩ (fun hHeld => ?_)
                             clear hK K
                             refine norm_ (a' := ?_) ?_ ?_
                             rotate_left
                             ·show Act.put _ (some 78) _ = _
                              simp only [Act.put, List.setIfInBounds_toArray, List.set_cons_zero, List.set_cons_succ, i64_w, i32_w]
                              rfl
                             refine pure_ (i := 12) (N := some 79) (v := ?_) (a' := ?_) #[true, true, true, true, true, true, true, true, true, true, true, true, true, false] rfl rfl (any_of HT_.out (by kernel_rfl)) (fun _ _ _ h => h) (Or.inl ⟨by rfl, ?_⟩) ?_ ?_
                             rotate_left
                             ·intro w'
                              go_simp
                              with_reducible rfl
                             rotate_left
                             ·simp only [Act.put, List.setIfInBounds_toArray, List.set_cons_zero, List.set_cons_succ, i64_w, i32_w]
                              rfl
                             refine last_ (i := 13) (N := none) #[true, true, true, true, true, true, true, true, true, true, true, true, true, true] rfl rfl (one_of HT_.out (by kernel_rfl)) (by decide) (fun K hK => ?_)
                             refine skip_ (w1 := ?_) (by rfl) rfl ?_ ?_
                             rotate_left
                             ·go_simp
                              rfl
                             refine hK.out _ _ ?_
                             clear hK K
                             refine done_ (done_of HT_.out (by kernel_rfl)) ?_
                             try go_wp2
                             (try simp only [← hl7_3])
                             go_roundg k3
                             case measure => have := HK1.out; have := HK2.out; have := HK3.out; omega
                             case rel => exact ⟨(y198120), (wrap64 (x10_3 + 1)), (by first | rfl | (simp; done) | (simp [*]; done)), H', ⟨by have := HK1.out; have := HK2.out; have := HK3.out; omega⟩, ⟨by (try simp only [hl7_1]); (try simp only [hl7_2]); (try simp only [hl7_3]); (with_reducible repeat (first | apply Kd.R_alloc | apply Kd.R_drewN | apply Kd.R_drew)); exact Kd.R_mono (Kd.R_far (p := ⟨go20, (x41_2 : Int).toNat, none⟩) (Kd.R_mono HO_6.out (fun k_ hk => (⟨hk, fun e_ => hk (by rw [e_]; rfl)⟩ : _ ∧ k_ ≠ go20))) (fun _ hk => hk.2) (.int .i64 t198119)) (fun _ hk => hk.1)⟩, ⟨by (try simp only [hl7_1]); (try simp only [hl7_2]); (try simp only [hl7_3]); (with_reducible repeat (first | apply Kd.R_alloc | apply Kd.R_drewN | apply Kd.R_drew)); exact HQ53.out⟩, ⟨by (try simp only [hl7_1]); (try simp only [hl7_2]); (try simp only [hl7_3]); (with_reducible repeat (first | refine blk_drewN ?_ _ | refine blk_drew ?_ | refine blk_alloc ?_ _)); refine blk_far ?_ (by have h_ := Kd.R_ne HO_7.out BK198101.out (by decide); intro e_; exact h_ (by rw [e_]; rfl)) _; (with_reducible repeat (first | refine blk_drewN ?_ _ | refine blk_drew ?_ | refine blk_alloc ?_ _)); exact BK198101.out⟩, ⟨by repeat (first | (with_reducible first | exact HB.out | apply below_alloc | apply pw_below_drewN | apply below_drew1 | refine below_set ?_ GB20.out | refine below_set ?_ GE198101.out) | exact HB.out)⟩⟩
                            ·rw [if_neg c47] at H
                             exact absurd H (by simp)
                           ·rw [if_neg c46] at H
                            exact absurd H (by simp)
                          ·rw [if_neg c45] at H
                           exact absurd H (by simp)
                         ·rw [if_neg c44] at H
                          have c44b0 : ((rd t198103 t198115) == (wrap64 (x8_1 - 1))) = false := beq_eq_false_iff_ne.mpr c44
                          have c44b1 : ((rd t198103 t198115) != (wrap64 (x8_1 - 1))) = true := bne_iff_ne.mpr c44
                          have H' := Aside0.mk H
                          clear H
                          have hcz54_0 : wr.cell? ⟨gb198101, 0, none⟩ = some (.int .i64 a0_0) := (blk_cell BK198101.out 0).trans rfl
                          have hcz54_1 : wr.cell? ⟨gb198101, 1, none⟩ = some (.int .i64 a0_1) := (blk_cell BK198101.out 1).trans rfl
                          have hcz54_2 : wr.cell? ⟨gb198101, 2, none⟩ = some (.int .i64 a0_2) := (blk_cell BK198101.out 2).trans rfl
                          have hcz54_3 : wr.cell? ⟨gb198101, 3, none⟩ = some (.slice A0_3 l0_3.length c0_3) := (blk_cell BK198101.out 3).trans rfl
                          have hfz54_0 := blk_frozen BK198101.out 0
                          have hfz54_1 := blk_frozen BK198101.out 1
                          have hfz54_2 := blk_frozen BK198101.out 2
                          have hfz54_3 := blk_frozen BK198101.out 3
                          go_wp2_with (first | ((with_reducible refine gate_callee (f := 137) rfl ?_); refine goesL_ (some 59) rfl rfl Try.func137 (by kernel_rfl) rfl #[.agg #[.int .i64 a0_0, .int .i64 a0_1, .int .i64 a0_2, .slice A0_3 l0_3.length c0_3], .int .i64 x41_2, .int .i64 x10_3] rfl (by (try simp only [List.map_toArray, List.map_cons, List.map_nil]); first | done | rfl | (simp only [List.length_drop, List.length_take]; rfl)) ?_; (with_reducible refine (spec_sqThrow.calls k3 a0_0 a0_1 a0_2 _ _ l0_3 x41_2 x10_3 t198115 _ ?side1 ?side2 A41.out).mono ?_); (case side1 => repeat (first | exact (Kd.C_below HR0_3.out HB.out) | (with_reducible refine Kd.C_alloc ?_ _) | (with_reducible refine Kd.C_drewN ?_ _) | (with_reducible refine Kd.C_drew ?_))); (case side2 => exact HC0_3.out); rintro e w55 ⟨rfl, hb⟩; refine ⟨_, rfl, ?_⟩; have n0_ := Aside0.mk (Kd.R_below (by (with_reducible repeat (first | apply Kd.R_alloc | apply Kd.R_drewN | apply Kd.R_drew)); exact HO_6.out) hb); have n1_ := Aside0.mk (Kd.R_below (by (with_reducible repeat (first | apply Kd.R_alloc | apply Kd.R_drewN | apply Kd.R_drew)); exact HO_7.out) hb); have n2_ := Aside0.mk (blk_below (g := gb198101) (o := .cells #[.int .i64 a0_0, .int .i64 a0_1, .int .i64 a0_2, .slice A0_3 l0_3.length c0_3] 32 (0, 0)) (by (with_reducible repeat (first | refine blk_drewN ?_ _ | refine blk_drew ?_ | refine blk_alloc ?_ _)); exact BK198101.out) hb); have n3_ := Aside0.mk (below_step (by repeat (first | (with_reducible first | exact HB.out | apply below_alloc | apply pw_below_drewN | apply below_drew1 | refine below_set ?_ GE198101.out) | exact HB.out)) hb); clear HO_6; clear HO_7; clear BK198101; clear HB; have HO_6 := n0_; have HO_7 := n1_; have BK198101 := n2_; have HB := n3_; clear n0_ n1_ n2_ n3_; (try clear hb); (try clear hb2); (try clear hk); (try clear hi); have p198116 : 0 ≤ (t198115 : Int) := of_decide_eq_true (by first | (with_reducible assumption) | assumption); have q198116 : t198115 < (t198103.length : Int) := of_decide_eq_true (by first | (with_reducible assumption) | assumption); obtain ⟨ad198116, e198116, hx198116_0⟩ := Kd.at_int (Kd.R_reads' HO_6.out).2.2 t198115 p198116 q198116; obtain rfl : ad198106 = ad198116 := (by injection e198116); replace p198116 := eq_true p198116; replace q198116 := eq_true q198116))
                          (try simp only [← hl7_3])
                          go_roundg k3
                          case measure => have := HK1.out; have := HK2.out; have := HK3.out; omega
                          case rel => exact ⟨(x7_3), (wrap64 (x10_3 + 1)), (by first | rfl | (simp; done) | (simp [*]; done)), H', ⟨by have := HK1.out; have := HK2.out; have := HK3.out; omega⟩, ⟨by (try simp only [hl7_1]); (try simp only [hl7_2]); (try simp only [hl7_3]); (with_reducible repeat (first | apply Kd.R_alloc | apply Kd.R_drewN | apply Kd.R_drew)); exact HO_6.out⟩, ⟨by (try simp only [hl7_1]); (try simp only [hl7_2]); (try simp only [hl7_3]); (with_reducible repeat (first | apply Kd.R_alloc | apply Kd.R_drewN | apply Kd.R_drew)); exact HO_7.out⟩, ⟨by (try simp only [hl7_1]); (try simp only [hl7_2]); (try simp only [hl7_3]); (with_reducible repeat (first | refine blk_drewN ?_ _ | refine blk_drew ?_ | refine blk_alloc ?_ _)); exact BK198101.out⟩, ⟨by repeat (first | (with_reducible first | exact HB.out | apply below_alloc | apply pw_below_drewN | apply below_drew1 | refine below_set ?_ GE198101.out) | exact HB.out)⟩⟩
                        ·rw [if_neg c43] at H
                         exact absurd H (by simp)
                       ·rw [if_neg c42] at H
                        exact absurd H (by simp)
                      ·rw [if_neg c40] at H
                       have c40b0 : decide (x10_3 ≤ a0_1) = false := decide_eq_false c40
                       clear c40
                       have H' := Aside0.mk H
                       clear H
                       have hcz56_0 : wr.cell? ⟨gb198101, 0, none⟩ = some (.int .i64 a0_0) := (blk_cell BK198101.out 0).trans rfl
                       have hcz56_1 : wr.cell? ⟨gb198101, 1, none⟩ = some (.int .i64 a0_1) := (blk_cell BK198101.out 1).trans rfl
                       have hcz56_2 : wr.cell? ⟨gb198101, 2, none⟩ = some (.int .i64 a0_2) := (blk_cell BK198101.out 2).trans rfl
                       have hcz56_3 : wr.cell? ⟨gb198101, 3, none⟩ = some (.slice A0_3 l0_3.length c0_3) := (blk_cell BK198101.out 3).trans rfl
                       have hfz56_0 := blk_frozen BK198101.out 0
                       have hfz56_1 := blk_frozen BK198101.out 1
                       have hfz56_2 := blk_frozen BK198101.out 2
                       have hfz56_3 := blk_frozen BK198101.out 3
                       go_wp2
                       (try simp only [← hl7_2, ← hl7_3])
                       go_roundg k3
                       case measure => have := HK1.out; have := HK2.out; have := HK3.out; omega
                       case rel => exact ⟨(x7_3), (wrap64 (x41_2 + 1)), (by first | rfl | (simp; done) | (simp [*]; done)), H', ⟨by have := HK1.out; have := HK2.out; have := HK3.out; omega⟩, ⟨by (try simp only [hl7_1]); (try simp only [hl7_2]); (try simp only [hl7_3]); (with_reducible repeat (first | apply Kd.R_alloc | apply Kd.R_drewN | apply Kd.R_drew)); exact HO_6.out⟩, ⟨by (try simp only [hl7_1]); (try simp only [hl7_2]); (try simp only [hl7_3]); (with_reducible repeat (first | apply Kd.R_alloc | apply Kd.R_drewN | apply Kd.R_drew)); exact HO_7.out⟩, ⟨by (try simp only [hl7_1]); (try simp only [hl7_2]); (try simp only [hl7_3]); (with_reducible repeat (first | refine blk_drewN ?_ _ | refine blk_drew ?_ | refine blk_alloc ?_ _)); exact BK198101.out⟩, ⟨by repeat (first | (with_reducible first | exact HB.out | apply below_alloc | apply pw_below_drewN | apply below_drew1 | refine below_set ?_ GE198101.out) | exact HB.out)⟩⟩
                   ·rw [if_neg c39] at H
                    have c39b0 : ((rd t198103 x41_2) == x8_1) = false := beq_eq_false_iff_ne.mpr c39
                    have c39b1 : ((rd t198103 x41_2) != x8_1) = true := bne_iff_ne.mpr c39
                    have H' := Aside0.mk H
                    clear H
                    have p198114 : 0 ≤ (x41_2 : Int) := of_decide_eq_true (by first | (with_reducible assumption) | assumption)
                    have q198114 : x41_2 < (t198103.length : Int) := of_decide_eq_true (by first | (with_reducible assumption) | assumption)
                    obtain ⟨ad198114, e198114, hx198114_0⟩ := Kd.at_int (Kd.R_reads' HO_6.out).2.2 x41_2 p198114 q198114
                    obtain rfl : ad198106 = ad198114 := (by injection e198114)
                    replace p198114 := eq_true p198114
                    replace q198114 := eq_true q198114
                    go_wp2
                    (try simp only [← hl7_2])
                    go_roundg k2
                    case measure => have := HK1.out; have := HK2.out; omega
                    case rel => exact ⟨(x7_2), (wrap64 (x41_2 + 1)), (by first | rfl | (simp; done) | (simp [*]; done)), H', ⟨by have := HK1.out; have := HK2.out; omega⟩, ⟨by (try simp only [hl7_1]); (try simp only [hl7_2]); (with_reducible repeat (first | apply Kd.R_alloc | apply Kd.R_drewN | apply Kd.R_drew)); exact HO_6.out⟩, ⟨by (try simp only [hl7_1]); (try simp only [hl7_2]); (with_reducible repeat (first | apply Kd.R_alloc | apply Kd.R_drewN | apply Kd.R_drew)); exact HO_7.out⟩, ⟨by (try simp only [hl7_1]); (try simp only [hl7_2]); (with_reducible repeat (first | refine blk_drewN ?_ _ | refine blk_drew ?_ | refine blk_alloc ?_ _)); exact BK198101.out⟩, ⟨by repeat (first | (with_reducible first | exact HB.out | apply below_alloc | apply pw_below_drewN | apply below_drew1 | refine below_set ?_ GE198101.out) | exact HB.out)⟩⟩
                  ·rw [if_neg c38] at H
                   exact absurd H (by simp)
                 ·rw [if_neg c37] at H
                  exact absurd H (by simp)
                ·rw [if_neg c36] at H
                 have c36b0 : decide (x41_2 < (t198103.length : Int)) = false := decide_eq_false c36
                 (try (have c36b0z := c36b0; rw [hl7_1] at c36b0z))
                 (try (have c36b0z := c36b0; rw [hl7_2] at c36b0z))
                 clear c36
                 have H' := Aside0.mk H
                 clear H
                 go_wp2
                 (try simp only [← hl7_1, ← hl7_2])
                 go_roundg k2
                 case measure => have := HK1.out; have := HK2.out; omega
                 case rel => exact ⟨(x7_2), (wrap64 (x8_1 + 1)), (by first | rfl | (simp; done) | (simp [*]; done)), H', ⟨by have := HK1.out; have := HK2.out; omega⟩, ⟨by (try simp only [hl7_1]); (try simp only [hl7_2]); (with_reducible repeat (first | apply Kd.R_alloc | apply Kd.R_drewN | apply Kd.R_drew)); exact HO_6.out⟩, ⟨by (try simp only [hl7_1]); (try simp only [hl7_2]); (with_reducible repeat (first | apply Kd.R_alloc | apply Kd.R_drewN | apply Kd.R_drew)); exact HO_7.out⟩, ⟨by (try simp only [hl7_1]); (try simp only [hl7_2]); (with_reducible repeat (first | refine blk_drewN ?_ _ | refine blk_drew ?_ | refine blk_alloc ?_ _)); exact BK198101.out⟩, ⟨by repeat (first | (with_reducible first | exact HB.out | apply below_alloc | apply pw_below_drewN | apply below_drew1 | refine below_set ?_ GE198101.out) | exact HB.out)⟩⟩
             ·rw [if_neg c35] at H
              have c35b0 : decide (x8_1 ≤ (rd t198103 a1)) = false := decide_eq_false c35
              clear c35
              by_cases c57 : a1 < (x7_1.length : Int)
              ·rw [if_pos c57] at H
               have c57b0 : decide (a1 < (x7_1.length : Int)) = true := decide_eq_true c57
               (try (have c57b0z := c57b0; rw [hl7_1] at c57b0z))
               clear c57
               by_cases c58 : (rd x7_1 a1) > 1000000000000000
               ·rw [if_pos c58] at H
                have c58b0 : decide (1000000000000000 < (rd x7_1 a1)) = true := decide_eq_true c58
                clear c58
                simp only [Option.some.injEq, Prod.mk.injEq] at H
                obtain ⟨rfl, rfl⟩ := H
                have p198111 : 0 ≤ (a1 : Int) := of_decide_eq_true (by first | (with_reducible assumption) | assumption)
                have q198111 : a1 < (t198103.length : Int) := of_decide_eq_true (by first | (with_reducible assumption) | assumption)
                obtain ⟨ad198111, e198111, hx198111_0⟩ := Kd.at_int (Kd.R_reads' HO_6.out).2.2 a1 p198111 q198111
                obtain rfl : ad198106 = ad198111 := (by injection e198111)
                replace p198111 := eq_true p198111
                replace q198111 := eq_true q198111
                have p198112 : 0 ≤ (a1 : Int) := of_decide_eq_true (by first | (with_reducible assumption) | assumption)
                have q198112 : a1 < (x7_1.length : Int) := of_decide_eq_true (by first | (with_reducible assumption) | assumption)
                obtain ⟨ad198112, e198112, hx198112_0⟩ := Kd.at_int (Kd.R_reads' HO_7.out).2.2 a1 p198112 q198112
                obtain rfl : (⟨go20, 0, none⟩ : Addr) = ad198112 := (by injection e198112)
                (first | simp only [add_plain] at hx198112_0 | simp only [add_at] at hx198112_0 | simp only [Addr.add, Nat.zero_add] at hx198112_0 | skip)
                replace p198112 := eq_true p198112
                replace q198112 := eq_true q198112
                go_wp2
                go_ret2
                exact ⟨by first | rfl | (simp [errW_none, errW_some] <;> rfl) | (simp only [← hji15]; first | rfl | (simp [errW_none, errW_some] <;> rfl)) | (simp [*, errW_none, errW_some] <;> rfl), by repeat (first | (with_reducible first | exact HB.out | apply below_alloc | apply pw_below_drewN | apply below_drew1 | refine below_set ?_ GE198101.out) | exact HB.out)⟩
               ·rw [if_neg c58] at H
                have c58b0 : decide (1000000000000000 < (rd x7_1 a1)) = false := decide_eq_false c58
                clear c58
                simp only [Option.some.injEq, Prod.mk.injEq] at H
                obtain ⟨rfl, rfl⟩ := H
                have p198111 : 0 ≤ (a1 : Int) := of_decide_eq_true (by first | (with_reducible assumption) | assumption)
                have q198111 : a1 < (t198103.length : Int) := of_decide_eq_true (by first | (with_reducible assumption) | assumption)
                obtain ⟨ad198111, e198111, hx198111_0⟩ := Kd.at_int (Kd.R_reads' HO_6.out).2.2 a1 p198111 q198111
                obtain rfl : ad198106 = ad198111 := (by injection e198111)
                replace p198111 := eq_true p198111
                replace q198111 := eq_true q198111
                have p198112 : 0 ≤ (a1 : Int) := of_decide_eq_true (by first | (with_reducible assumption) | assumption)
                have q198112 : a1 < (x7_1.length : Int) := of_decide_eq_true (by first | (with_reducible assumption) | assumption)
                obtain ⟨ad198112, e198112, hx198112_0⟩ := Kd.at_int (Kd.R_reads' HO_7.out).2.2 a1 p198112 q198112
                obtain rfl : (⟨go20, 0, none⟩ : Addr) = ad198112 := (by injection e198112)
                (first | simp only [add_plain] at hx198112_0 | simp only [add_at] at hx198112_0 | simp only [Addr.add, Nat.zero_add] at hx198112_0 | skip)
                replace p198112 := eq_true p198112
                replace q198112 := eq_true q198112
                have p198113 : 0 ≤ (a1 : Int) := of_decide_eq_true (by first | (with_reducible assumption) | assumption)
                have q198113 : a1 < (x7_1.length : Int) := of_decide_eq_true (by first | (with_reducible assumption) | assumption)
                obtain ⟨ad198113, e198113, hx198113_0⟩ := Kd.at_int (Kd.R_reads' HO_7.out).2.2 a1 p198113 q198113
                obtain rfl : (⟨go20, 0, none⟩ : Addr) = ad198113 := (by injection e198113)
                (first | simp only [add_plain] at hx198113_0 | simp only [add_at] at hx198113_0 | simp only [Addr.add, Nat.zero_add] at hx198113_0 | skip)
                replace p198113 := eq_true p198113
                replace q198113 := eq_true q198113
                go_wp2
                go_ret2
                exact ⟨by first | rfl | (simp [errW_none, errW_some] <;> rfl) | (simp only [← hji15]; first | rfl | (simp [errW_none, errW_some] <;> rfl)) | (simp [*, errW_none, errW_some] <;> rfl), by repeat (first | (with_reducible first | exact HB.out | apply below_alloc | apply pw_below_drewN | apply below_drew1 | refine below_set ?_ GE198101.out) | exact HB.out)⟩
              ·rw [if_neg c57] at H
               exact absurd H (by simp)
            ·rw [if_neg c34] at H
             exact absurd H (by simp)
           ·rw [if_neg c33] at H
            exact absurd H (by simp)
        ·rw [if_neg c19] at H
         exact absurd H (by simp)
       ·rw [if_neg c18] at H
        exact absurd H (by simp)
      ·rw [if_neg c17] at H
       exact absurd H (by simp)
     ·rw [if_neg c16] at H
      exact absurd H (by simp)
   ·rw [if_neg c7] at H
    exact absurd H (by simp)
  ·rw [if_neg c6] at H
   exact absurd H (by simp)
 ·replace c4 := Bool.eq_false_iff.mpr c4
  subst c4
  have H1 : (some (0, false)) = some (r1, r2) := by rw [if_neg (show ¬ (false = true) by decide)] at H; exact H
  clear H
  have H := H1
  clear H1
  simp only [Option.some.injEq, Prod.mk.injEq] at H
  obtain ⟨rfl, rfl⟩ := H
  go_enter Try.func99, Try.ntmps99
  go_wp2_with (first | ((with_reducible refine gate_dst (N := 2) rfl ?_); refine box_event ?hg (N := 2) ?hd (cs := #[.int .i64 a0_0, .int .i64 a0_1, .int .i64 a0_2, .slice A0_3 l0_3.length c0_3]) (t := 32) ?hr ?_; (case hd => rfl); (case hg => rfl); (case hr => first | (go_simp; done) | (go_simp; rfl)); intro gb198101 hg w59 hbox hb; have n0_ := Aside0.mk (below_step (by repeat (first | (with_reducible first | exact HB.out | apply below_alloc | apply pw_below_drewN | apply below_drew1) | exact HB.out)) hb); have n1_ := Aside0.mk (hbox); have n2_ := Aside0.mk ((by rw [hg]; exact (below_size (by repeat (first | (with_reducible first | exact HB.out | apply below_alloc | apply pw_below_drewN | apply below_drew1) | exact HB.out))) : w.heap.size ≤ gb198101)); have n3_ := Aside0.mk ((by rw [hg]; exact (below_size (by repeat (first | (with_reducible first | exact HB.out | apply below_alloc | apply pw_below_drewN | apply below_drew1) | exact HB.out))) : w.heap.size ≤ gb198101)); clear HB; have HB := n0_; have BK198101 := n1_; have GW198101 := n2_; have GE198101 := n3_; clear n0_ n1_ n2_ n3_; clear hb hbox hg; have hcz60_0 : w59.cell? ⟨gb198101, 0, none⟩ = some (.int .i64 a0_0) := (blk_cell BK198101.out 0).trans rfl; have hcz60_1 : w59.cell? ⟨gb198101, 1, none⟩ = some (.int .i64 a0_1) := (blk_cell BK198101.out 1).trans rfl; have hcz60_2 : w59.cell? ⟨gb198101, 2, none⟩ = some (.int .i64 a0_2) := (blk_cell BK198101.out 2).trans rfl; have hcz60_3 : w59.cell? ⟨gb198101, 3, none⟩ = some (.slice A0_3 l0_3.length c0_3) := (blk_cell BK198101.out 3).trans rfl; have hfz60_0 := blk_frozen BK198101.out 0; have hfz60_1 := blk_frozen BK198101.out 1; have hfz60_2 := blk_frozen BK198101.out 2; have hfz60_3 := blk_frozen BK198101.out 3) | ((with_reducible refine gate_callee (f := 135) rfl ?_); refine goesL_ (some 14) rfl rfl Try.func135 (by kernel_rfl) rfl #[.agg #[.int .i64 a0_0, .int .i64 a0_1, .int .i64 a0_2, .slice A0_3 l0_3.length c0_3], .int .i64 a1] rfl (by (try simp only [List.map_toArray, List.map_cons, List.map_nil]); first | done | rfl | (simp only [List.length_drop, List.length_take]; rfl)) ?_; (with_reducible refine (spec_sqAsked.calls k a0_0 a0_1 a0_2 _ _ l0_3 a1 false _ ?side1 ?side2 A3.out).mono ?_); (case side1 => repeat (first | exact (Kd.C_below HR0_3.out HB.out) | (with_reducible refine Kd.C_alloc ?_ _) | (with_reducible refine Kd.C_drewN ?_ _) | (with_reducible refine Kd.C_drew ?_))); (case side2 => exact HC0_3.out); rintro e w61 ⟨rfl, hb⟩; refine ⟨_, rfl, ?_⟩; have n0_ := Aside0.mk (blk_below (g := gb198101) (o := .cells #[.int .i64 a0_0, .int .i64 a0_1, .int .i64 a0_2, .slice A0_3 l0_3.length c0_3] 32 (0, 0)) (by (with_reducible repeat (first | refine blk_drewN ?_ _ | refine blk_drew ?_ | refine blk_alloc ?_ _)); exact BK198101.out) hb); have n1_ := Aside0.mk (below_step (by repeat (first | (with_reducible first | exact HB.out | apply below_alloc | apply pw_below_drewN | apply below_drew1 | refine below_set ?_ GE198101.out) | exact HB.out)) hb); clear BK198101; clear HB; have BK198101 := n0_; have HB := n1_; clear n0_ n1_; (try clear hb); (try clear hb2); (try clear hk); (try clear hi)))
  go_ret2
  exact ⟨by first | rfl | (simp [errW_none, errW_some] <;> rfl) | (simp [*, errW_none, errW_some] <;> rfl), by repeat (first | (with_reducible first | exact HB.out | apply below_alloc | apply pw_below_drewN | apply below_drew1 | refine below_set ?_ GE198101.out) | exact HB.out)⟩

end Go.Proofs.Ytkobjjadojpjfaa.Pr
