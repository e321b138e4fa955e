-- A text of the machine side, written by wip/gen.py of this repo out of the translation. Not trusted: Lean checks it.
import Derived.Test.YtkobjjadojpjfaaF0
import Derived.Test.YtkobjjadojpjfaaFImplBoardLandings
namespace Go.Proofs.Ytkobjjadojpjfaa.Pr
open Go.RowKit Go.Proofs.YtkobjjadojpjfaaW.PrintWords Go.Proofs.YtkobjjadojpjfaaW.PrintLast Go.Proofs.YtkobjjadojpjfaaW.PrintMore
attribute [local go_sem] max2_int min2_int max_two min_two max_three min_three max_four min_four   -- for this text's walks alone
set_option linter.unusedVariables false
set_option linter.unusedSimpArgs false

/-! ### impl_Board_reached: function 162 -/
mutual
def impl_Board_reached.l0 : Nat → List Bool → List Int → Int → Int → Int → Int → List (S27) → Option (List Bool)
 | 0, _, _, _, _, _, _, _ => none
 | k + 1, x5, x6, x7, x324102000, x324102001, x324102002, x324102003 => if x7 < (x6.length : Int) then (if 0 ≤ x7 then ((impl_Board_landings.f k x324102000 x324102001 x324102002 x324102003 (rd x6 x7)).bind fun t324110 => (impl_Board_reached.l1 k x5 x6 x7 t324110 (t324110.length : Int) 0 x324102000 x324102001 x324102002 x324102003)) else (none)) else (some x5)
def impl_Board_reached.l1 : Nat → List Bool → List Int → Int → List Int → Int → Int → Int → Int → Int → List (S27) → Option (List Bool)
 | 0, _, _, _, _, _, _, _, _, _, _ => none
 | k + 1, x5, x6, x7, x30, x31, x32, x324102000, x324102001, x324102002, x324102003 => if x32 < x31 then (if 0 ≤ x32 then (if x32 < (x30.length : Int) then (if 0 ≤ (rd x30 x32) then (if (rd x30 x32) < (x5.length : Int) then (if (rdOf false x5 (rd x30 x32) = true) then (impl_Board_reached.l1 k x5 x6 x7 x30 x31 (wrap64 (x32 + 1)) x324102000 x324102001 x324102002 x324102003) else (if x6.length < 17592186044416 then (impl_Board_reached.l1 k (x5.set ((rd x30 x32) : Int).toNat true) (x6 ++ [rd x30 x32]) x7 x30 x31 (wrap64 (x32 + 1)) x324102000 x324102001 x324102002 x324102003) else (none))) else (none)) else (none)) else (none)) else (none)) else (impl_Board_reached.l0 k x5 x6 (wrap64 (x7 + 1)) x324102000 x324102001 x324102002 x324102003)
end
def impl_Board_reached.f (k : Nat) (a0_0 : Int) (a0_1 : Int) (a0_2 : Int) (l0_3 : List (S27)) (a1 : Int) : Option (List Bool) := if 0 ≤ (wrap64 (a0_0 + 1)) then (if (wrap64 (a0_0 + 1) : Int).toNat ≤ 281474976710656 then ((some (List.replicate (wrap64 (a0_0 + 1) : Int).toNat false : List Bool)).bind fun y324102 => (if 0 ≤ a1 then (if a1 < (y324102.length : Int) then (impl_Board_reached.l0 k (y324102.set (a1 : Int).toNat true) (([a1] : List Int)) 0 a0_0 a0_1 a0_2 l0_3) else (none)) else (none))) else (none)) else (none)
def impl_Board_reached.T6 : Bool × List (List Nat × List Nat) := (true, [([], []), ([], []), ([], []), ([1, 2], [1, 2]), ([3], [3]), ([0, 4], [0, 4]), ([5], [5]), ([], [])])
def impl_Board_reached.B6 : List Nat := [0, 0, 0, 6, 14, 31, 63, 0]
theorem impl_Board_reached.tab6 : rtab .any (opsOf Try.f162 6) = impl_Board_reached.T6 := by kernel_rfl
theorem impl_Board_reached.bits6 : waitsOk impl_Board_reached.T6.2 impl_Board_reached.B6 = true := by kernel_rfl
set_option maxHeartbeats 8000000 in
set_option maxRecDepth 100000 in
theorem impl_Board_reached.calls (k : Nat) (a0_0 : Int) (a0_1 : Int) (a0_2 : Int) (A0_3 : Option Addr) (c0_3 : Nat) (l0_3 : List (S27)) (a1 : Int) (r : List Bool) (w : World) (hr0_3 : Kd.C k27 w A0_3 l0_3.length l0_3) (hc0_3 : l0_3.length ≤ c0_3) (h : impl_Board_reached.f k a0_0 a0_1 a0_2 l0_3 a1 = some r) :
  Calls Try.prog 162 #[.agg #[.int .i64 a0_0, .int .i64 a0_1, .int .i64 a0_2, .slice A0_3 l0_3.length c0_3], .int .i64 a1] w fun e w' => ∃ v0_ : Value, e = .returned (v0_) ∧ Kd.R Kd.bool 4 w' w.heap.size (fun _ => True) v0_ r ∧ Below w.heap.size w w' := by
 have hu32 := Try.underlying32
 have HR0_3 := Aside0.mk hr0_3
 have HC0_3 := Aside0.mk hc0_3
 clear hr0_3 hc0_3
 have HB := Aside0.mk (Below.refl w.heap.size w)
 have H : (if 0 ≤ (wrap64 (a0_0 + 1)) then (if (wrap64 (a0_0 + 1) : Int).toNat ≤ 281474976710656 then ((some (List.replicate (wrap64 (a0_0 + 1) : Int).toNat false : List Bool)).bind fun y324102 => (if 0 ≤ a1 then (if a1 < (y324102.length : Int) then (impl_Board_reached.l0 k (y324102.set (a1 : Int).toNat true) (([a1] : List Int)) 0 a0_0 a0_1 a0_2 l0_3) else (none)) else (none))) else (none)) else (none)) = some r := h
 clear h
 try clear hji2w
 try clear hji2
 try clear hji19w
 try clear hji19
 try clear hji2w
 try clear hji2
 try clear hji19w
 try clear hji19
 try clear hji4w
 try clear hji4
 try clear hji17w
 try clear hji17
 try clear hji3w
 try clear hji3
 try clear hji3w
 try clear hji3
 try clear hji3w
 try clear hji3
 obtain ⟨ji3, hji3⟩ : ∃ j_ : Int, (wrap64 (a0_0 + 1)) = j_ := ⟨_, rfl⟩
 replace H : (if 0 ≤ (ji3) then (if (ji3 : Int).toNat ≤ 281474976710656 then ((some (List.replicate (ji3 : Int).toNat false : List Bool)).bind fun y324102 => (if 0 ≤ a1 then (if a1 < (y324102.length : Int) then (impl_Board_reached.l0 k (y324102.set (a1 : Int).toNat true) (([a1] : List Int)) 0 a0_0 a0_1 a0_2 l0_3) else (none)) else (none))) else (none)) else (none)) = some r := by first | (rw [hji3] at H; exact H) | (simp only [hji3] at H ⊢; exact H)
 have hji3w : (IntKind.i64.wrap (a0_0 + 1)) = ji3 := (i64_w _).trans hji3
 by_cases c4 : 0 ≤ (ji3)
 ·rw [if_pos c4] at H
  have c4b0 := eq_true c4
  have c4b1 : decide (0 ≤ (ji3)) = true := decide_eq_true c4
  clear c4
  by_cases c5 : (ji3 : Int).toNat ≤ 281474976710656
  ·rw [if_pos c5] at H
   have c5b0 := eq_true c5
   have c5b1 : decide ((ji3 : Int).toNat ≤ 281474976710656) = true := decide_eq_true c5
   clear c5
   obtain ⟨y324102, hy324102⟩ : ∃ y_ : List Bool, y_ = (List.replicate (ji3 : Int).toNat false) := ⟨_, rfl⟩
   replace H : (if 0 ≤ a1 then (if a1 < (y324102.length : Int) then (impl_Board_reached.l0 k (y324102.set (a1 : Int).toNat true) (([a1] : List Int)) 0 a0_0 a0_1 a0_2 l0_3) else (none)) else (none)) = some r := by first | (rw [hy324102]; with_reducible exact H) | (have H2_ := (Option.bind_some _ _).symm.trans H; rw [hy324102]; with_reducible exact H2_) | (have H2_ := (Option.bind_some _ _).symm.trans H; with_reducible exact H2_) | with_reducible exact H | (rw [hy324102]; exact H) | exact H
   have Ny324102 := Aside0.mk hy324102
   clear hy324102
   obtain ⟨y324105, hy324105⟩ : ∃ y_ : List Int, y_ = (([a1] : List Int)) := ⟨_, rfl⟩
   replace H : (if 0 ≤ a1 then (if a1 < (y324102.length : Int) then (impl_Board_reached.l0 k (y324102.set (a1 : Int).toNat true) y324105 0 a0_0 a0_1 a0_2 l0_3) else (none)) else (none)) = some r := by first | (rw [hy324105]; with_reducible exact H) | (have H2_ := (Option.bind_some _ _).symm.trans H; rw [hy324105]; with_reducible exact H2_) | (have H2_ := (Option.bind_some _ _).symm.trans H; with_reducible exact H2_) | with_reducible exact H | (rw [hy324105]; exact H) | exact H
   have Ny324105 := Aside0.mk hy324105
   clear hy324105
   by_cases c6 : 0 ≤ a1
   ·rw [if_pos c6] at H
    have c6b0 : decide (0 ≤ a1) = true := decide_eq_true c6
    clear c6
    by_cases c7 : a1 < (y324102.length : Int)
    ·rw [if_pos c7] at H
     have c7b0 : decide (a1 < (y324102.length : Int)) = true := decide_eq_true c7
     clear c7
     obtain ⟨y324108, hy324108⟩ : ∃ y_ : List Bool, y_ = (y324102.set (a1 : Int).toNat true) := ⟨_, rfl⟩
     replace H : (impl_Board_reached.l0 k y324108 y324105 0 a0_0 a0_1 a0_2 l0_3) = some r := by first | (rw [hy324108]; with_reducible exact H) | (have H2_ := (Option.bind_some _ _).symm.trans H; rw [hy324108]; with_reducible exact H2_) | (have H2_ := (Option.bind_some _ _).symm.trans H; with_reducible exact H2_) | with_reducible exact H | (rw [hy324108]; exact H) | exact H
     have Ny324108 := Aside0.mk hy324108
     clear hy324108
     have H' := Aside0.mk H
     clear H
     go_enter Try.func162, Try.ntmps162
     go_wp2_with (first | ((with_reducible refine gate_dst (N := 2) rfl ?_); refine box_event ?hg (N := 2) ?hd (cs := #[.int .i64 a0_0, .int .i64 a0_1, .int .i64 a0_2, .slice A0_3 l0_3.length c0_3]) (t := 32) ?hr ?_; (case hd => rfl); (case hg => rfl); (case hr => first | (go_simp; done) | (go_simp; rfl)); intro gb324101 hg w9 hbox hb; have n0_ := Aside0.mk (below_step (by repeat (first | (with_reducible first | exact HB.out | apply below_alloc | apply pw_below_drewN | apply below_drew1) | exact HB.out)) hb); have n1_ := Aside0.mk (hbox); have n2_ := Aside0.mk ((by rw [hg]; exact (below_size (by repeat (first | (with_reducible first | exact HB.out | apply below_alloc | apply pw_below_drewN | apply below_drew1) | exact HB.out))) : w.heap.size ≤ gb324101)); have n3_ := Aside0.mk ((by rw [hg]; exact (below_size (by repeat (first | (with_reducible first | exact HB.out | apply below_alloc | apply pw_below_drewN | apply below_drew1) | exact HB.out))) : w.heap.size ≤ gb324101)); clear HB; have HB := n0_; have BK324101 := n1_; have GW324101 := n2_; have GE324101 := n3_; clear n0_ n1_ n2_ n3_; clear hb hbox hg; have hcz10_0 : w9.cell? ⟨gb324101, 0, none⟩ = some (.int .i64 a0_0) := (blk_cell BK324101.out 0).trans rfl; have hcz10_1 : w9.cell? ⟨gb324101, 1, none⟩ = some (.int .i64 a0_1) := (blk_cell BK324101.out 1).trans rfl; have hcz10_2 : w9.cell? ⟨gb324101, 2, none⟩ = some (.int .i64 a0_2) := (blk_cell BK324101.out 2).trans rfl; have hcz10_3 : w9.cell? ⟨gb324101, 3, none⟩ = some (.slice A0_3 l0_3.length c0_3) := (blk_cell BK324101.out 3).trans rfl; have hfz10_0 := blk_frozen BK324101.out 0; have hfz10_1 := blk_frozen BK324101.out 1; have hfz10_2 := blk_frozen BK324101.out 2; have hfz10_3 := blk_frozen BK324101.out 3) | ((with_reducible refine gate_dst (N := 13) rfl ?_); refine Kd.R_make Kd.bool _ 4 rfl (N := 13) rfl 121 _ _ rfl ji3 rfl rfl Try.underlying121 (.bool false) 1 info4 rfl (by decide) (by omega) false (ok := fun _ => True) (okp := fun _ => True) rfl (fun _ hk => hk) trivial (of_decide_eq_true (by first | (with_reducible assumption) | assumption)) (Nat.le_trans (Nat.mul_le_mul_right _ (of_decide_eq_true (by first | (with_reducible assumption) | assumption) : ji3.toNat ≤ 281474976710656)) (by omega)) (Below.refl _ _) (Nat.le_refl _) ?_; intro v324103 w11 ho12 hb hg_ hnew_; clear hg_ hnew_; (first | rw [← Ny324102.out] at ho12 | (simp only [Int.reduceToNat] at ho12; rw [← Ny324102.out] at ho12)); have n0_ := Aside0.mk (Kd.R_lower ho12 (below_size (by repeat (first | (with_reducible first | exact HB.out | apply below_alloc | apply pw_below_drewN | apply below_drew1 | refine below_set ?_ GE324101.out) | exact HB.out)))); have n1_ := Aside0.mk (blk_below (g := gb324101) (o := .cells #[.int .i64 a0_0, .int .i64 a0_1, .int .i64 a0_2, .slice A0_3 l0_3.length c0_3] 32 (0, 0)) (by (with_reducible repeat (first | refine blk_drewN ?_ _ | refine blk_drew ?_ | refine blk_alloc ?_ _)); exact BK324101.out) hb); have n2_ := Aside0.mk (below_step (by repeat (first | (with_reducible first | exact HB.out | apply below_alloc | apply pw_below_drewN | apply below_drew1 | refine below_set ?_ GE324101.out) | exact HB.out)) hb); clear BK324101; clear HB; have HO324104 := n0_; have BK324101 := n1_; have HB := n2_; clear n0_ n1_ n2_; clear hb ho12) | ((with_reducible refine gate_dst (N := 15) rfl ?_); refine Kd.R_lit (Kd.int .i64) _ 3 ?hg (N := 15) ?hd (xs := ([a1] : List Int)) (inner := [.int .i64 a1]) (ok := fun _ => True) (okp := fun _ => True) ?hr ?hp (fun _ hk => hk) trivial (Below.refl _ _) (Nat.le_refl _) (by simp) ?_; (case hd => rfl); (case hg => rfl); (case hr => first | (go_simp; done) | (go_simp; rfl)); (case hp => exact (Reps.one (show Kd.M (Kd.int .i64) _ _ _ a1 [.int .i64 a1] from rfl) (Reps.none _ _))); intro v324106 w13 ho14 hb hg_ hnew_; clear hg_ hnew_; (first | rw [← Ny324105.out] at ho14 | (simp only [Int.reduceToNat] at ho14; rw [← Ny324105.out] at ho14)); have n0_ := Aside0.mk (Kd.R_below (by (with_reducible repeat (first | apply Kd.R_alloc | apply Kd.R_drewN | apply Kd.R_drew)); exact HO324104.out) hb); have n1_ := Aside0.mk (Kd.R_lower ho14 (below_size (by repeat (first | (with_reducible first | exact HB.out | apply below_alloc | apply pw_below_drewN | apply below_drew1 | refine below_set ?_ GE324101.out) | exact HB.out)))); have n2_ := Aside0.mk (blk_below (g := gb324101) (o := .cells #[.int .i64 a0_0, .int .i64 a0_1, .int .i64 a0_2, .slice A0_3 l0_3.length c0_3] 32 (0, 0)) (by (with_reducible repeat (first | refine blk_drewN ?_ _ | refine blk_drew ?_ | refine blk_alloc ?_ _)); exact BK324101.out) hb); have n3_ := Aside0.mk (below_step (by repeat (first | (with_reducible first | exact HB.out | apply below_alloc | apply pw_below_drewN | apply below_drew1 | refine below_set ?_ GE324101.out) | exact HB.out)) hb); clear HO324104; clear BK324101; clear HB; have HO324104 := n0_; have HO324107 := n1_; have BK324101 := n2_; have HB := n3_; clear n0_ n1_ n2_ n3_; clear hb ho14; have p8 : 0 ≤ (a1 : Int) := of_decide_eq_true (by first | (with_reducible assumption) | assumption); have q8 : (a1 : Int) < ((y324102.length : Int) : Int) := of_decide_eq_true (by first | (with_reducible assumption) | assumption); obtain ⟨go8, co8, eo8, gb8, gl8, cl8, HG8⟩ := Kd.R_form HO324104.out (by omega); (first | cases eo8 | (injection eo8 with ea_ en_ ec_; (first | subst ea_ | (injection ea_ with ea_; subst ea_)); subst ec_; clear en_)); have GB8 := Aside0.mk gb8; have GG8 := Aside0.mk HG8; clear gb8 gl8 HG8; obtain ⟨hx8_0, hf8_0⟩ := Kd.R_celln false HO324104.out (a1 : Int) p8 q8; replace p8 := eq_true p8; replace q8 := eq_true q8; obtain ⟨hy15_, hz15_⟩ := Kd.R_celln false HO324104.out (a1 : Int) (of_decide_eq_true (by first | (with_reducible assumption) | assumption)) (of_decide_eq_true (by first | (with_reducible assumption) | assumption)); have HP15 := Kd.R_putg HO324104.out (a1 : Int) true) | ((with_reducible refine gate_store (t := 4) (p := 18) rfl ?_); refine store_event (t := 4) (p := 18) (v := ?vo_w16) (w1 := (w13.setCell ⟨go8, (a1 : Int).toNat, none⟩ (.bool true))) ?hg ?ho ?hn ?hr ?_; (case ho => rfl); (case hg => rfl); (case hn => rfl); (case hr => first | (go_simp; done) | (go_simp; rfl)); intro w16 hw; have hg : w13.grownBy w16 (some go8) := (by rw [hw]; exact HP15.2); have hp_ : Kd.R Kd.bool 4 w16 w.heap.size (fun _ => True) (.slice (some ⟨go8, 0, none⟩) y324102.length co8) y324108 := (by rw [hw, Ny324108.out]; exact HP15.1); clear HP15; have n0_ := Aside0.mk (blk_grown (g := gb324101) (o := .cells #[.int .i64 a0_0, .int .i64 a0_1, .int .i64 a0_2, .slice A0_3 l0_3.length c0_3] 32 (0, 0)) (by (with_reducible repeat (first | refine blk_drewN ?_ _ | refine blk_drew ?_ | refine blk_alloc ?_ _)); exact BK324101.out) hg (Kd.R_ne HO324104.out BK324101.out (by decide))); have n1_ := Aside0.mk (hp_); have n2_ := Aside0.mk (Kd.R_over' (v := (.slice (some ⟨go8, 0, none⟩) y324102.length co8)) (by (with_reducible repeat (first | apply Kd.R_alloc | apply Kd.R_drewN | apply Kd.R_drew)); exact HO324107.out) (Kd.R_typed HO324104.out) (by decide) hg); have n3_ := Aside0.mk ((by rw [hw]; exact below_set (HB.out) GB8.out : Below w.heap.size w w16)); clear BK324101; clear HO324104; clear HO324107; clear HB; have BK324101 := n0_; have HO324104 := n1_; have HO324107 := n2_; have HB := n3_; clear n0_ n1_ n2_ n3_; clear hg hw hp_))
     go_loopg [6, 7] k (fun kq v6 v7 w' => ∃ (x5_1 : List Bool) (x6_1 : List Int) (x7_1 : Int), v7 = .int .i64 x7_1 ∧ Aside0 (impl_Board_reached.l0 kq x5_1 x6_1 x7_1 a0_0 a0_1 a0_2 l0_3 = some r) ∧ Aside0 (kq ≤ k) ∧ Aside0 (Kd.R Kd.bool 4 w' w.heap.size (fun _ => True) (.slice (some ⟨go8, 0, none⟩) y324102.length co8) x5_1) ∧ Aside0 (Kd.R (Kd.int .i64) 3 w' w.heap.size (fun _ => True) v6 x6_1) ∧ Aside0 (w'.heap[gb324101]? = some (.cells #[.int .i64 a0_0, .int .i64 a0_1, .int .i64 a0_2, (.slice A0_3 l0_3.length c0_3)] 32 (0, 0))) ∧ Aside0 (Below w.heap.size w w'))
     case atStart => exact ⟨(y324108), (y324105), (0), (by first | rfl | (simp; done) | (simp [*]; done)), H', ⟨Nat.le_refl _⟩, ⟨by (with_reducible repeat (first | apply Kd.R_alloc | apply Kd.R_drewN | apply Kd.R_drew)); exact HO324104.out⟩, ⟨by (with_reducible repeat (first | apply Kd.R_alloc | apply Kd.R_drewN | apply Kd.R_drew)); exact HO324107.out⟩, ⟨by (with_reducible repeat (first | refine blk_drewN ?_ _ | refine blk_drew ?_ | refine blk_alloc ?_ _)); exact BK324101.out⟩, ⟨by repeat (first | (with_reducible first | exact HB.out | apply below_alloc | apply pw_below_drewN | apply below_drew1 | refine below_set ?_ GE324101.out) | exact HB.out)⟩⟩
     case round =>
      clear H'
      try clear c1
      try clear p2
      try clear c4
      try clear c4b0
      try clear c4b1
      try clear c5
      try clear c5b0
      try clear c5b1
      try clear c6
      try clear c6b0
      try clear p6
      try clear c7
      try clear c7b0
      try clear p8
      try clear q8
      try clear hx8
      try clear hf8
      try clear c16
      try clear hcz10_0
      try clear hcz10_1
      try clear hcz10_2
      try clear hcz10_3
      try clear hfz10_0
      try clear hfz10_1
      try clear hfz10_2
      try clear hfz10_3
      try clear hx8_0
      try clear p8
      try clear q8
      obtain ⟨x5_1, x6_1, x7_1, rfl, HA, HK1, HO_5, HO_6, BK324101, HB⟩ := hrel
      have hl5_1 := (Kd.R_reads' HO_5.out).1
      rw [hl5_1] at HO_5
      (try simp only [hl5_1])
      (try simp only [hl5_1] at BK324101)
      (try simp only [hl5_1] at HO_6)
      cases gk with
      | zero => exact absurd HA.out (by simp [impl_Board_reached.l0])
      | succ k1 =>
       have H := HA.out
       clear HA
       simp only [impl_Board_reached.l0] at H
       by_cases c17 : x7_1 < (x6_1.length : Int)
       ·rw [if_pos c17] at H
        have c17b0 : decide (x7_1 < (x6_1.length : Int)) = true := decide_eq_true c17
        (try (have c17b0z := c17b0; rw [hl5_1] at c17b0z))
        clear c17
        by_cases c18 : 0 ≤ x7_1
        ·rw [if_pos c18] at H
         have c18b0 : decide (0 ≤ x7_1) = true := decide_eq_true c18
         clear c18
         replace H := Option.bind_eq_some_iff.mp H
         obtain ⟨t324110, A190, H⟩ := H
         replace H : (impl_Board_reached.l1 k1 x5_1 x6_1 x7_1 t324110 (t324110.length : Int) 0 a0_0 a0_1 a0_2 l0_3) = some r := H
         have A19 := Aside0.mk A190
         clear A190
         have H' := Aside0.mk H
         clear H
         obtain ⟨Ao20, co20, eo20⟩ := Kd.R_slice HO_6.out
         subst eo20
         try go_wp2
         have n0_ := Aside0.mk (Kd.R_drew HO_5.out)
         have n1_ := Aside0.mk (Kd.R_drew HO_6.out)
         have n2_ := Aside0.mk (blk_drew BK324101.out)
         have n3_ := Aside0.mk (below_drew1 HB.out)
         clear HO_5
         clear HO_6
         clear BK324101
         clear HB
         have HO_5 := n0_
         have HO_6 := n1_
         have BK324101 := n2_
         have HB := n3_
         clear n0_ n1_ n2_ n3_
         have p324109 : 0 ≤ (x7_1 : Int) := of_decide_eq_true (by first | (with_reducible assumption) | assumption)
         have q324109 : x7_1 < (x6_1.length : Int) := of_decide_eq_true (by first | (with_reducible assumption) | assumption)
         obtain ⟨ad324109, e324109, hx324109_0⟩ := Kd.at_int (Kd.R_reads' HO_6.out).2.2 x7_1 p324109 q324109
         cases e324109
         replace p324109 := eq_true p324109
         replace q324109 := eq_true q324109
         refine start_ (n := 8) (S := fun w' => w'.cell? ⟨gb324101, 0, none⟩ = some (.int .i64 a0_0) ∧ w'.cell? ⟨gb324101, 1, none⟩ = some (.int .i64 a0_1) ∧ w'.cell? ⟨gb324101, 2, none⟩ = some (.int .i64 a0_2) ∧ w'.cell? ⟨gb324101, 3, none⟩ = some (.slice A0_3 l0_3.length c0_3) ∧ w'.cell? (ad324109.add (x7_1).toNat) = some (.int .i64 (rd x6_1 x7_1))) (ds := []) #[false, false, false, false, false, false, false, false] (by kernel_rfl) rfl rfl ⟨(blk_cell BK324101.out 0).trans rfl, (blk_cell BK324101.out 1).trans rfl, (blk_cell BK324101.out 2).trans rfl, (blk_cell BK324101.out 3).trans rfl, hx324109_0⟩ (fun hHeld => ?_); refine with_tabW impl_Board_reached.tab6 impl_Board_reached.bits6 (fun HT_ HW_ => ?_)
         generalize wr.drew = w21 at HO_5 HO_6 BK324101 HB hx324109_0 hHeld ⊢
         refine pure_ (i := 1) (N := some 26) (v := ?_) (a' := ?_) #[false, true, false, false, false, false, false, false] rfl rfl (any_of HT_.out (by kernel_rfl)) (fun _ _ _ h => h) (Or.inl ⟨by rfl, ?_⟩) ?_ ?_
         rotate_left
         ·intro w'
          go_simp
          with_reducible rfl
         rotate_left
         ·simp only [Act.put, List.setIfInBounds_toArray, List.set_cons_zero, List.set_cons_succ, i64_w, i32_w]
          rfl
         refine pure_ (i := 2) (N := some 27) (v := ?_) (a' := ?_) #[false, true, true, false, false, false, false, false] rfl rfl (any_of HT_.out (by kernel_rfl)) (fun _ _ _ h => h) (Or.inl ⟨by rfl, ?_⟩) ?_ ?_
         rotate_left
         ·intro w'
          go_simp
          with_reducible rfl
         rotate_left
         ·simp only [Act.put, List.setIfInBounds_toArray, List.set_cons_zero, List.set_cons_succ, i64_w, i32_w]
          rfl
         refine pure_ (i := 3) (N := some 28) (v := ?_) (a' := ?_) #[false, true, true, true, false, false, false, false] rfl rfl (any_of HT_.out (by kernel_rfl)) (fun _ _ _ h => h) (Or.inl ⟨by rfl, ?_⟩) ?_ ?_
         rotate_left
         ·intro w'
          go_simp
          with_reducible rfl
         rotate_left
         ·simp only [Act.put, List.setIfInBounds_toArray, List.set_cons_zero, List.set_cons_succ, i64_w, i32_w]
          rfl
         refine pure_ (i := 7) (N := some 32) (v := ?_) (a' := ?_) #[false, true, true, true, false, false, false, true] rfl rfl (any_of HT_.out (by kernel_rfl)) (fun _ _ _ h => h) (Or.inl ⟨by rfl, ?_⟩) ?_ ?_
         rotate_left
         ·intro w'
          go_simp
          with_reducible rfl
         rotate_left
         ·simp only [Act.put, List.setIfInBounds_toArray, List.set_cons_zero, List.set_cons_succ, i64_w, i32_w]
          rfl
         refine take_ (i := 0) (N := some 25) (v := ?_) (a' := ?_) #[true, true, true, true, false, false, false, true] rfl rfl (take_ofW HT_.out HW_.out (by kernel_rfl)) (fun _ _ _ h => h) (Or.inl ⟨by rfl, ?_⟩) hHeld ?_ ?_
         rotate_left
         ·rintro w' ⟨s0, s1, s2, s3, s4⟩
          go_simp
          with_reducible rfl
         rotate_left
         ·simp only [Act.put, List.setIfInBounds_toArray, List.set_cons_zero, List.set_cons_succ, i64_w, i32_w]
          rfl
         refine take_ (i := 4) (N := some 29) (v := ?_) (a' := ?_) #[true, true, true, true, true, false, false, true] rfl rfl (take_ofW HT_.out HW_.out (by kernel_rfl)) (fun _ _ _ h => h) (Or.inl ⟨by rfl, ?_⟩) hHeld ?_ ?_
         rotate_left
         ·rintro w' ⟨s0, s1, s2, s3, s4⟩
          go_simp
          with_reducible rfl
         rotate_left
         ·simp only [Act.put, List.setIfInBounds_toArray, List.set_cons_zero, List.set_cons_succ, i64_w, i32_w]
          rfl
         refine one_ (i := 5) (N := some 30) #[true, true, true, true, true, true, false, true] rfl rfl (one_of HT_.out (by kernel_rfl)) (by decide) (fun K hK => ?_)
         refine goes_ Try.func145 (by kernel_rfl) rfl #[.agg #[.int .i64 a0_0, .int .i64 a0_1, .int .i64 a0_2, .slice A0_3 l0_3.length c0_3], .int .i64 (rd x6_1 x7_1)] (by rfl) rfl rfl (by (try simp only [List.map_toArray, List.map_cons, List.map_nil]); first | done | rfl | (simp only [List.length_drop, List.length_take]; rfl)) ?_
         with_reducible refine (impl_Board_landings.calls k1 a0_0 a0_1 a0_2 _ _ l0_3 (rd x6_1 x7_1) t324110 _ ?side1 ?side2 A19.out).mono ?_
         (case side1 => repeat (first | exact (Kd.C_below HR0_3.out HB.out) | (with_reducible refine Kd.C_alloc ?_ _) | (with_reducible refine Kd.C_drewN ?_ _) | (with_reducible refine Kd.C_drew ?_)))
         (case side2 => exact HC0_3.out)
         rintro e w22 ⟨v324111, rfl, ho0, hb⟩
         have HS4_ := (hb.cell (World.block_lt_of_cell? _ _ (hHeld.2.2.2.2))).trans (hHeld.2.2.2.2)
         refine ⟨_, rfl, ?_⟩
         have n0_ := Aside0.mk (Kd.R_below (by (with_reducible repeat (first | apply Kd.R_alloc | apply Kd.R_drewN | apply Kd.R_drew)); exact HO_5.out) hb)
         have n1_ := Aside0.mk (Kd.R_elder' (by (with_reducible repeat (first | apply Kd.R_alloc | apply Kd.R_drewN | apply Kd.R_drew)); exact HO_6.out) (Kd.R_base ho0) hb)
         have n2_ := Aside0.mk (Kd.R_lower (Kd.R_new' ho0 (Kd.R_lt (by (with_reducible repeat (first | apply Kd.R_alloc | apply Kd.R_drewN | apply Kd.R_drew)); exact HO_6.out))) (below_size (by repeat (first | (with_reducible first | exact HB.out | apply below_alloc | apply pw_below_drewN | apply below_drew1 | refine below_set ?_ GE324101.out) | exact HB.out))))
         have n3_ := Aside0.mk (blk_below (g := gb324101) (o := .cells #[.int .i64 a0_0, .int .i64 a0_1, .int .i64 a0_2, .slice A0_3 l0_3.length c0_3] 32 (0, 0)) (by (with_reducible repeat (first | refine blk_drewN ?_ _ | refine blk_drew ?_ | refine blk_alloc ?_ _)); exact BK324101.out) hb)
         have n4_ := Aside0.mk (below_step (by repeat (first | (with_reducible first | exact HB.out | apply below_alloc | apply pw_below_drewN | apply below_drew1 | refine below_set ?_ GE324101.out) | exact HB.out)) hb)
         clear HO_5
         clear HO_6
         clear BK324101
         clear HB
         have HO_5 := n0_
         have HO_6 := n1_
         have HO324112 := n2_
         have BK324101 := n3_
         have HB := n4_
         clear n0_ n1_ n2_ n3_ n4_
         (try clear hb)
         (try clear hb2)
         (try clear hk)
         (try clear hi)
         (try clear ho0)
         obtain ⟨Ao23, co23, eo23⟩ := Kd.R_slice HO324112.out
         (first | subst eo23 | (injection eo23 with f1_ f2_ f3_; have f4_ := f1_.symm; have f5_ := f3_.symm; clear f1_ f2_ f3_; subst f4_; subst f5_))
         refine hK.out _ _ ⟨(blk_cell BK324101.out 0).trans rfl, (blk_cell BK324101.out 1).trans rfl, (blk_cell BK324101.out 2).trans rfl, (blk_cell BK324101.out 3).trans rfl, HS4_⟩ (fun hHeld => ?_)
         clear hK K
         refine norm_ (a' := ?_) ?_ ?_
         rotate_left
         ·show Act.put _ (some 30) _ = _
          simp only [Act.put, List.setIfInBounds_toArray, List.set_cons_zero, List.set_cons_succ, i64_w, i32_w]
          rfl
         refine pure_ (i := 6) (N := some 31) (v := ?_) (a' := ?_) #[true, true, true, true, true, true, true, true] rfl rfl (any_of HT_.out (by kernel_rfl)) (fun _ _ _ h => h) (Or.inl ⟨by rfl, ?_⟩) ?_ ?_
         rotate_left
         ·intro w'
          go_simp
          with_reducible rfl
         rotate_left
         ·simp only [Act.put, List.setIfInBounds_toArray, List.set_cons_zero, List.set_cons_succ, i64_w, i32_w]
          rfl
         refine done_ (done_of HT_.out (by kernel_rfl)) ?_
         try go_wp2
         go_loopg [6, 32] k1 (fun kq v6 v32 w' => ∃ (x5_2 : List Bool) (x6_2 : List Int) (x32_2 : Int), v32 = .int .i64 x32_2 ∧ Aside0 (impl_Board_reached.l1 kq x5_2 x6_2 x7_1 t324110 (t324110.length : Int) x32_2 a0_0 a0_1 a0_2 l0_3 = some r) ∧ Aside0 (kq ≤ k1) ∧ Aside0 (Kd.R Kd.bool 4 w' w.heap.size (fun _ => True) (.slice (some ⟨go8, 0, none⟩) x5_1.length co8) x5_2) ∧ Aside0 (Kd.R (Kd.int .i64) 3 w' w.heap.size (fun k_ => some k_ ≠ ((.slice Ao23 t324110.length co23) : Value).ownBlock) v6 x6_2) ∧ Aside0 (Kd.R (Kd.int .i64) 3 w' w.heap.size (fun k_ => some k_ ≠ (v6 : Value).ownBlock) (.slice Ao23 t324110.length co23) t324110) ∧ Aside0 (w'.heap[gb324101]? = some (.cells #[.int .i64 a0_0, .int .i64 a0_1, .int .i64 a0_2, (.slice A0_3 l0_3.length c0_3)] 32 (0, 0))) ∧ Aside0 (Below w.heap.size w w'))
         case atStart => exact ⟨(x5_1), (x6_1), (0), (by first | rfl | (simp; done) | (simp [*]; done)), H', ⟨Nat.le_refl _⟩, ⟨by (try simp only [hl5_1]); (with_reducible repeat (first | apply Kd.R_alloc | apply Kd.R_drewN | apply Kd.R_drew)); exact HO_5.out⟩, ⟨by (try simp only [hl5_1]); (with_reducible repeat (first | apply Kd.R_alloc | apply Kd.R_drewN | apply Kd.R_drew)); exact Kd.R_mono HO_6.out (fun _ hk => hk.2)⟩, ⟨by (try simp only [hl5_1]); (with_reducible repeat (first | apply Kd.R_alloc | apply Kd.R_drewN | apply Kd.R_drew)); exact Kd.R_mono HO324112.out (fun _ hk => hk.2)⟩, ⟨by (try simp only [hl5_1]); (with_reducible repeat (first | refine blk_drewN ?_ _ | refine blk_drew ?_ | refine blk_alloc ?_ _)); exact BK324101.out⟩, ⟨by repeat (first | (with_reducible first | exact HB.out | apply below_alloc | apply pw_below_drewN | apply below_drew1 | refine below_set ?_ GE324101.out) | exact HB.out)⟩⟩
         case round =>
          clear H'
          try clear c1
          try clear p2
          try clear p3
          try clear q3
          try clear hx3
          try clear c4
          try clear c4b0
          try clear c4b1
          try clear c5
          try clear c5b0
          try clear c5b1
          try clear c6
          try clear c6b0
          try clear p6
          try clear c7
          try clear c7b0
          try clear p8
          try clear q8
          try clear hx8
          try clear hf8
          try clear c14
          try clear c16
          try clear c17
          try clear c17b0
          try clear c18
          try clear c18b0
          try clear hcz10_0
          try clear hcz10_1
          try clear hcz10_2
          try clear hcz10_3
          try clear hfz10_0
          try clear hfz10_1
          try clear hfz10_2
          try clear hfz10_3
          try clear hx324109_0
          try clear hx8_0
          try clear p2
          try clear p324109
          try clear p6
          try clear p8
          try clear q324109
          try clear q8
          obtain ⟨x5_2, x6_2, x32_2, rfl, HA, HK2, HO_5, HO_6, HO_30, BK324101, HB⟩ := hrel
          have hl5_2 := (Kd.R_reads' HO_5.out).1
          rw [hl5_2] at HO_5
          (try simp only [hl5_2])
          (try simp only [hl5_2] at BK324101)
          (try simp only [hl5_2] at HO_6)
          (try simp only [hl5_2] at HO_30)
          cases gk with
          | zero => exact absurd HA.out (by simp [impl_Board_reached.l1])
          | succ k2 =>
           have H := HA.out
           clear HA
           simp only [impl_Board_reached.l1] at H
           by_cases c24 : x32_2 < (t324110.length : Int)
           ·rw [if_pos c24] at H
            have c24b0 : decide (x32_2 < (t324110.length : Int)) = true := decide_eq_true c24
            (try (have c24b0z := c24b0; rw [hl5_1] at c24b0z))
            (try (have c24b0z := c24b0; rw [hl5_2] at c24b0z))
            clear c24
            by_cases c25 : 0 ≤ x32_2
            ·rw [if_pos c25] at H
             have c25b0 : decide (0 ≤ x32_2) = true := decide_eq_true c25
             clear c25
             by_cases c26 : x32_2 < (t324110.length : Int)
             ·rw [if_pos c26] at H
              have c26b0 : decide (x32_2 < (t324110.length : Int)) = true := decide_eq_true c26
              (try (have c26b0z := c26b0; rw [hl5_1] at c26b0z))
              (try (have c26b0z := c26b0; rw [hl5_2] at c26b0z))
              clear c26
              by_cases c27 : 0 ≤ (rd t324110 x32_2)
              ·rw [if_pos c27] at H
               have c27b0 : decide (0 ≤ (rd t324110 x32_2)) = true := decide_eq_true c27
               clear c27
               by_cases c28 : (rd t324110 x32_2) < (x5_2.length : Int)
               ·rw [if_pos c28] at H
                have c28b0 : decide ((rd t324110 x32_2) < (x5_2.length : Int)) = true := decide_eq_true c28
                (try (have c28b0z := c28b0; rw [hl5_1] at c28b0z))
                (try (have c28b0z := c28b0; rw [hl5_2] at c28b0z))
                clear c28
                obtain ⟨bq29, hbq29⟩ : ∃ b_ : Bool, b_ = (rdOf false x5_2 (rd t324110 x32_2)) := ⟨_, rfl⟩
                replace H : (if (bq29 = true) then (impl_Board_reached.l1 k2 x5_2 x6_2 x7_1 t324110 (t324110.length : Int) (wrap64 (x32_2 + 1)) a0_0 a0_1 a0_2 l0_3) else (if x6_2.length < 17592186044416 then (impl_Board_reached.l1 k2 (x5_2.set ((rd t324110 x32_2) : Int).toNat true) (x6_2 ++ [rd t324110 x32_2]) x7_1 t324110 (t324110.length : Int) (wrap64 (x32_2 + 1)) a0_0 a0_1 a0_2 l0_3) else (none))) = some r := by rw [← hbq29] at H; exact H
                have Nbq29 := Aside0.mk hbq29
                clear hbq29
                by_cases c30 : (bq29 = true)
                ·subst c30
                 have H1 : (impl_Board_reached.l1 k2 x5_2 x6_2 x7_1 t324110 (t324110.length : Int) (wrap64 (x32_2 + 1)) a0_0 a0_1 a0_2 l0_3) = some r := by rw [if_pos rfl] at H; exact H
                 clear H
                 have H := H1
                 clear H1
                 have H' := Aside0.mk H
                 clear H
                 have p324113 : 0 ≤ (x32_2 : Int) := of_decide_eq_true (by first | (with_reducible assumption) | assumption)
                 have q324113 : x32_2 < (t324110.length : Int) := of_decide_eq_true (by first | (with_reducible assumption) | assumption)
                 obtain ⟨ad324113, e324113, hx324113_0⟩ := Kd.at_int (Kd.R_reads' HO_30.out).2.2 x32_2 p324113 q324113
                 cases e324113
                 replace p324113 := eq_true p324113
                 replace q324113 := eq_true q324113
                 have p324114 : 0 ≤ ((rd t324110 x32_2) : Int) := of_decide_eq_true (by first | (with_reducible assumption) | assumption)
                 have q324114 : (rd t324110 x32_2) < (x5_2.length : Int) := of_decide_eq_true (by first | (with_reducible assumption) | assumption)
                 obtain ⟨ad324114, e324114, hx324114_0⟩ := Kd.at_bool (Kd.R_reads' HO_5.out).2.2 (rd t324110 x32_2) p324114 q324114
                 (try rw [← Nbq29.out] at hx324114_0)
                 obtain rfl : (⟨go8, 0, none⟩ : Addr) = ad324114 := (by injection e324114)
                 (first | simp only [add_plain] at hx324114_0 | simp only [add_at] at hx324114_0 | simp only [Addr.add, Nat.zero_add] at hx324114_0 | skip)
                 replace p324114 := eq_true p324114
                 replace q324114 := eq_true q324114
                 go_wp2
                 (try simp only [← hl5_2])
                 go_roundg k2
                 case measure => have := HK1.out; have := HK2.out; omega
                 case rel => exact ⟨(x5_2), (x6_2), (wrap64 (x32_2 + 1)), (by first | rfl | (simp; done) | (simp [*]; done)), H', ⟨by have := HK1.out; have := HK2.out; omega⟩, ⟨by (try simp only [hl5_1]); (try simp only [hl5_2]); (with_reducible repeat (first | apply Kd.R_alloc | apply Kd.R_drewN | apply Kd.R_drew)); exact HO_5.out⟩, ⟨by (try simp only [hl5_1]); (try simp only [hl5_2]); (with_reducible repeat (first | apply Kd.R_alloc | apply Kd.R_drewN | apply Kd.R_drew)); exact HO_6.out⟩, ⟨by (try simp only [hl5_1]); (try simp only [hl5_2]); (with_reducible repeat (first | apply Kd.R_alloc | apply Kd.R_drewN | apply Kd.R_drew)); exact HO_30.out⟩, ⟨by (try simp only [hl5_1]); (try simp only [hl5_2]); (with_reducible repeat (first | refine blk_drewN ?_ _ | refine blk_drew ?_ | refine blk_alloc ?_ _)); exact BK324101.out⟩, ⟨by repeat (first | (with_reducible first | exact HB.out | apply below_alloc | apply pw_below_drewN | apply below_drew1 | refine below_set ?_ GE324101.out) | exact HB.out)⟩⟩
                ·replace c30 := Bool.eq_false_iff.mpr c30
                 subst c30
                 have H1 : (if x6_2.length < 17592186044416 then (impl_Board_reached.l1 k2 (x5_2.set ((rd t324110 x32_2) : Int).toNat true) (x6_2 ++ [rd t324110 x32_2]) x7_1 t324110 (t324110.length : Int) (wrap64 (x32_2 + 1)) a0_0 a0_1 a0_2 l0_3) else (none)) = some r := by rw [if_neg (show ¬ (false = true) by decide)] at H; exact H
                 clear H
                 have H := H1
                 clear H1
                 obtain ⟨y324115, hy324115⟩ : ∃ y_ : List Bool, y_ = (x5_2.set ((rd t324110 x32_2) : Int).toNat true) := ⟨_, rfl⟩
                 replace H : (if x6_2.length < 17592186044416 then (impl_Board_reached.l1 k2 y324115 (x6_2 ++ [rd t324110 x32_2]) x7_1 t324110 (t324110.length : Int) (wrap64 (x32_2 + 1)) a0_0 a0_1 a0_2 l0_3) else (none)) = some r := by first | (rw [hy324115]; with_reducible exact H) | (have H2_ := (Option.bind_some _ _).symm.trans H; rw [hy324115]; with_reducible exact H2_) | (have H2_ := (Option.bind_some _ _).symm.trans H; with_reducible exact H2_) | with_reducible exact H | (rw [hy324115]; exact H) | exact H
                 have Ny324115 := Aside0.mk hy324115
                 clear hy324115
                 by_cases c32 : x6_2.length < 17592186044416
                 ·rw [if_pos c32] at H
                  have LMc32 := Aside0.mk c32
                  clear c32
                  obtain ⟨y324116, hy324116⟩ : ∃ y_ : List Int, y_ = (x6_2 ++ [rd t324110 x32_2]) := ⟨_, rfl⟩
                  replace H : (impl_Board_reached.l1 k2 y324115 y324116 x7_1 t324110 (t324110.length : Int) (wrap64 (x32_2 + 1)) a0_0 a0_1 a0_2 l0_3) = some r := by first | (rw [hy324116]; with_reducible exact H) | (have H2_ := (Option.bind_some _ _).symm.trans H; rw [hy324116]; with_reducible exact H2_) | (have H2_ := (Option.bind_some _ _).symm.trans H; with_reducible exact H2_) | with_reducible exact H | (rw [hy324116]; exact H) | exact H
                  have Ny324116 := Aside0.mk hy324116
                  clear hy324116
                  have H' := Aside0.mk H
                  clear H
                  have p324113 : 0 ≤ (x32_2 : Int) := of_decide_eq_true (by first | (with_reducible assumption) | assumption)
                  have q324113 : x32_2 < (t324110.length : Int) := of_decide_eq_true (by first | (with_reducible assumption) | assumption)
                  obtain ⟨ad324113, e324113, hx324113_0⟩ := Kd.at_int (Kd.R_reads' HO_30.out).2.2 x32_2 p324113 q324113
                  cases e324113
                  replace p324113 := eq_true p324113
                  replace q324113 := eq_true q324113
                  have p324114 : 0 ≤ ((rd t324110 x32_2) : Int) := of_decide_eq_true (by first | (with_reducible assumption) | assumption)
                  have q324114 : (rd t324110 x32_2) < (x5_2.length : Int) := of_decide_eq_true (by first | (with_reducible assumption) | assumption)
                  obtain ⟨ad324114, e324114, hx324114_0⟩ := Kd.at_bool (Kd.R_reads' HO_5.out).2.2 (rd t324110 x32_2) p324114 q324114
                  (try rw [← Nbq29.out] at hx324114_0)
                  obtain rfl : (⟨go8, 0, none⟩ : Addr) = ad324114 := (by injection e324114)
                  (first | simp only [add_plain] at hx324114_0 | simp only [add_at] at hx324114_0 | simp only [Addr.add, Nat.zero_add] at hx324114_0 | skip)
                  replace p324114 := eq_true p324114
                  replace q324114 := eq_true q324114
                  have p31 : 0 ≤ ((rd t324110 x32_2) : Int) := of_decide_eq_true (by first | (with_reducible assumption) | assumption)
                  have q31 : ((rd t324110 x32_2) : Int) < ((x5_2.length : Int) : Int) := of_decide_eq_true (by first | (with_reducible assumption) | assumption)
                  obtain ⟨hx31_0, hf31_0⟩ := Kd.R_celln false HO_5.out ((rd t324110 x32_2) : Int) p31 q31
                  replace p31 := eq_true p31
                  replace q31 := eq_true q31
                  have HP33 := Kd.R_putg HO_5.out ((rd t324110 x32_2) : Int) true
                  go_wp2_with (first | ((with_reducible refine gate_store (t := 4) (p := 43) rfl ?_); refine store_event (t := 4) (p := 43) (v := ?vo_w34) (w1 := (wr.setCell ⟨go8, ((rd t324110 x32_2) : Int).toNat, none⟩ (.bool true))) ?hg ?ho ?hn ?hr ?_; (case ho => rfl); (case hg => rfl); (case hn => rfl); (case hr => first | (go_simp; done) | (go_simp; rfl)); intro w34 hw; have hg : wr.grownBy w34 (some go8) := (by rw [hw]; exact HP33.2); have hp_ : Kd.R Kd.bool 4 w34 w.heap.size (fun _ => True) (.slice (some ⟨go8, 0, none⟩) x5_2.length co8) y324115 := (by rw [hw, Ny324115.out]; exact HP33.1); clear HP33; have n0_ := Aside0.mk (hp_); have n1_ := Aside0.mk (Kd.R_over' (v := (.slice (some ⟨go8, 0, none⟩) x5_2.length co8)) (by (with_reducible repeat (first | apply Kd.R_alloc | apply Kd.R_drewN | apply Kd.R_drew)); exact HO_6.out) (Kd.R_typed HO_5.out) (by decide) hg); have n2_ := Aside0.mk (Kd.R_over' (v := (.slice (some ⟨go8, 0, none⟩) x5_2.length co8)) (by (with_reducible repeat (first | apply Kd.R_alloc | apply Kd.R_drewN | apply Kd.R_drew)); exact HO_30.out) (Kd.R_typed HO_5.out) (by decide) hg); have n3_ := Aside0.mk (blk_grown (g := gb324101) (o := .cells #[.int .i64 a0_0, .int .i64 a0_1, .int .i64 a0_2, .slice A0_3 l0_3.length c0_3] 32 (0, 0)) (by (with_reducible repeat (first | refine blk_drewN ?_ _ | refine blk_drew ?_ | refine blk_alloc ?_ _)); exact BK324101.out) hg (Kd.R_ne HO_5.out BK324101.out (by decide))); have n4_ := Aside0.mk ((by rw [hw]; exact below_set (HB.out) GB8.out : Below w.heap.size w w34)); clear HO_5; clear HO_6; clear HO_30; clear BK324101; clear HB; have HO_5 := n0_; have HO_6 := n1_; have HO_30 := n2_; have BK324101 := n3_; have HB := n4_; clear n0_ n1_ n2_ n3_ n4_; clear hg hw hp_) | ((with_reducible refine gate_builtin (b := .append) (xs := #[.tmp 44, .tmp 46]) rfl ?_); at_builtin; refine Kd.R_append (Kd.int .i64) (w0 := w) w.heap.size rfl (.tmp 44) (.tmp 46) 58 3 (.int .i64 0) 8 rfl Try.underlying58 info3 rfl (by decide) (by omega) u6 x6_2 (rd t324110 x32_2) [.int .i64 (rd t324110 x32_2)] (fun k_ => some k_ ≠ (.slice (some ad324113) t324110.length co23 : Value).ownBlock) (fun _ => False) rfl rfl ?aP (fun _ hk => hk.elim) ?aF ?aO ?aB ?aS ?aL ?_; (case aP => exact rfl); (case aB => exact (by repeat (first | (with_reducible first | exact HB.out | apply below_alloc | apply pw_below_drewN | apply below_drew1 | refine below_set ?_ GE324101.out) | exact HB.out))); (case aF => exact (fun k_ hk => Kd.fresh' (Kd.R_lt (by (with_reducible repeat (first | apply Kd.R_alloc | apply Kd.R_drewN | apply Kd.R_drew)); exact HO_30.out)) k_ hk)); (case aO => exact (by (with_reducible repeat (first | apply Kd.R_alloc | apply Kd.R_drewN | apply Kd.R_drew)); exact HO_6.out)); (case aS => exact (below_size (by repeat (first | (with_reducible first | exact HB.out | apply below_alloc | apply pw_below_drewN | apply below_drew1 | refine below_set ?_ GE324101.out) | exact HB.out)))); (case aL => have := LMc32.out; omega); intro v324117 w35 ho hb hg hat; rw [← Ny324116.out] at ho; have n0_ := Aside0.mk (Kd.R_over' (by (with_reducible repeat (first | apply Kd.R_alloc | apply Kd.R_drewN | apply Kd.R_drew)); exact HO_5.out) (Kd.R_typed (by (with_reducible repeat (first | apply Kd.R_alloc | apply Kd.R_drewN | apply Kd.R_drew)); exact HO_6.out)) (by decide) hg); have n1_ := Aside0.mk (Kd.R_after (ok := (fun _ => True)) (by (with_reducible repeat (first | apply Kd.R_alloc | apply Kd.R_drewN | apply Kd.R_drew)); exact Kd.R_mono HO_30.out (fun _ hk => ⟨trivial, hk⟩)) hg hat); have n2_ := Aside0.mk (blk_grown (g := gb324101) (o := .cells #[.int .i64 a0_0, .int .i64 a0_1, .int .i64 a0_2, .slice A0_3 l0_3.length c0_3] 32 (0, 0)) (by (with_reducible repeat (first | refine blk_drewN ?_ _ | refine blk_drew ?_ | refine blk_alloc ?_ _)); exact BK324101.out) hg (Kd.R_ne HO_6.out BK324101.out (by decide))); have n3_ := Aside0.mk (hb); have n4_ := Aside0.mk (ho); clear HO_5; clear HO_30; clear BK324101; clear HB; clear HO_6; have HO_5 := n0_; have HO_30 := n1_; have BK324101 := n2_; have HB := n3_; have HO324118 := n4_; clear n0_ n1_ n2_ n3_ n4_; clear ho hb hg hat))
                  (try simp only [← hl5_2])
                  go_roundg k2
                  case measure => have := HK1.out; have := HK2.out; omega
                  case rel => exact ⟨(y324115), (y324116), (wrap64 (x32_2 + 1)), (by first | rfl | (simp; done) | (simp [*]; done)), H', ⟨by have := HK1.out; have := HK2.out; omega⟩, ⟨by (try simp only [hl5_1]); (try simp only [hl5_2]); (with_reducible repeat (first | apply Kd.R_alloc | apply Kd.R_drewN | apply Kd.R_drew)); exact HO_5.out⟩, ⟨by (try simp only [hl5_1]); (try simp only [hl5_2]); (with_reducible repeat (first | apply Kd.R_alloc | apply Kd.R_drewN | apply Kd.R_drew)); exact HO324118.out⟩, ⟨by (try simp only [hl5_1]); (try simp only [hl5_2]); (with_reducible repeat (first | apply Kd.R_alloc | apply Kd.R_drewN | apply Kd.R_drew)); exact Kd.R_mono HO_30.out (fun _ hk => hk.2)⟩, ⟨by (try simp only [hl5_1]); (try simp only [hl5_2]); (with_reducible repeat (first | refine blk_drewN ?_ _ | refine blk_drew ?_ | refine blk_alloc ?_ _)); exact BK324101.out⟩, ⟨by repeat (first | (with_reducible first | exact HB.out | apply below_alloc | apply pw_below_drewN | apply below_drew1 | refine below_set ?_ GE324101.out) | exact HB.out)⟩⟩
                 ·rw [if_neg c32] at H
                  exact absurd H (by simp)
               ·rw [if_neg c28] at H
                exact absurd H (by simp)
              ·rw [if_neg c27] at H
               exact absurd H (by simp)
             ·rw [if_neg c26] at H
              exact absurd H (by simp)
            ·rw [if_neg c25] at H
             exact absurd H (by simp)
           ·rw [if_neg c24] at H
            have c24b0 : decide (x32_2 < (t324110.length : Int)) = false := decide_eq_false c24
            (try (have c24b0z := c24b0; rw [hl5_1] at c24b0z))
            (try (have c24b0z := c24b0; rw [hl5_2] at c24b0z))
            clear c24
            have H' := Aside0.mk H
            clear H
            go_wp2
            (try simp only [← hl5_1, ← hl5_2])
            go_roundg k2
            case measure => have := HK1.out; have := HK2.out; omega
            case rel => exact ⟨(x5_2), (x6_2), (wrap64 (x7_1 + 1)), (by first | rfl | (simp; done) | (simp [*]; done)), H', ⟨by have := HK1.out; have := HK2.out; omega⟩, ⟨by (try simp only [hl5_1]); (try simp only [hl5_2]); (with_reducible repeat (first | apply Kd.R_alloc | apply Kd.R_drewN | apply Kd.R_drew)); exact HO_5.out⟩, ⟨by (try simp only [hl5_1]); (try simp only [hl5_2]); (with_reducible repeat (first | apply Kd.R_alloc | apply Kd.R_drewN | apply Kd.R_drew)); exact Kd.R_mono HO_6.out (fun _ hk => trivial)⟩, ⟨by (try simp only [hl5_1]); (try simp only [hl5_2]); (with_reducible repeat (first | refine blk_drewN ?_ _ | refine blk_drew ?_ | refine blk_alloc ?_ _)); exact BK324101.out⟩, ⟨by repeat (first | (with_reducible first | exact HB.out | apply below_alloc | apply pw_below_drewN | apply below_drew1 | refine below_set ?_ GE324101.out) | exact HB.out)⟩⟩
        ·rw [if_neg c18] at H
         exact absurd H (by simp)
       ·rw [if_neg c17] at H
        have c17b0 : decide (x7_1 < (x6_1.length : Int)) = false := decide_eq_false c17
        (try (have c17b0z := c17b0; rw [hl5_1] at c17b0z))
        clear c17
        obtain rfl := Option.some.inj H
        obtain ⟨Ao36, co36, eo36⟩ := Kd.R_slice HO_6.out
        subst eo36
        go_wp2
        go_ret
        exact ⟨_, by first | rfl | (simp [errW_none, errW_some] <;> rfl) | (simp only [← hji3]; first | rfl | (simp [errW_none, errW_some] <;> rfl)) | (simp [*, errW_none, errW_some] <;> rfl), by (with_reducible repeat (first | apply Kd.R_alloc | apply Kd.R_drewN | apply Kd.R_drew)); exact HO_5.out, by repeat (first | (with_reducible first | exact HB.out | apply below_alloc | apply pw_below_drewN | apply below_drew1 | refine below_set ?_ GE324101.out) | exact HB.out)⟩
    ·rw [if_neg c7] at H
     exact absurd H (by simp)
   ·rw [if_neg c6] at H
    exact absurd H (by simp)
  ·rw [if_neg c5] at H
   exact absurd H (by simp)
 ·rw [if_neg c4] at H
  exact absurd H (by simp)

end Go.Proofs.Ytkobjjadojpjfaa.Pr
