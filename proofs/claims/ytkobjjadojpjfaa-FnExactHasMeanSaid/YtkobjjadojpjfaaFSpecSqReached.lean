-- A text of the machine side, written by wip/gen.py of this repo out of the translation. Not trusted: Lean checks it.
import Derived.Test.YtkobjjadojpjfaaF0
import Derived.Test.YtkobjjadojpjfaaFGB
namespace Go.Proofs.Ytkobjjadojpjfaa.Pr
open Go.RowKit Go.Proofs.YtkobjjadojpjfaaW.PrintWords Go.Proofs.YtkobjjadojpjfaaW.PrintLast Go.Proofs.YtkobjjadojpjfaaW.PrintMore
attribute [local go_sem] max2_int min2_int max_two min_two max_three min_three max_four min_four   -- for this text's walks alone
set_option linter.unusedVariables false
set_option linter.unusedSimpArgs false

abbrev bSpecSqReached_0 : Array Bool := #[false, false, false, false, false, false, false, false]
abbrev bSpecSqReached_1 : Array Bool := #[false, true, false, false, false, false, false, false]
abbrev bSpecSqReached_2 : Array Bool := #[false, true, true, false, false, false, false, false]
abbrev bSpecSqReached_3 : Array Bool := #[false, true, true, true, false, false, false, false]
abbrev bSpecSqReached_4 : Array Bool := #[false, true, true, true, false, true, false, false]
abbrev bSpecSqReached_5 : Array Bool := #[true, true, true, true, false, true, false, false]
abbrev bSpecSqReached_6 : Array Bool := #[true, true, true, true, true, true, false, false]
abbrev bSpecSqReached_7 : Array Bool := #[true, true, true, true, true, true, true, false]
abbrev bSpecSqReached_8 : Array Bool := #[true, true, true, true, true, true, true, true]
/-! ### spec_sqReached: function 160 -/
mutual
def spec_sqReached.l0 : Nat → List Bool → List Int → Int → Int → Int → Int → List (S27) → Option (List Bool)
 | 0, _, _, _, _, _, _, _ => none
 | k + 1, x5, x6, x7, x320102000, x320102001, x320102002, x320102003 => if x7 < (x6.length : Int) then (spec_sqReached.l1 k x5 x6 x7 1 x320102000 x320102001 x320102002 x320102003) else (some x5)
def spec_sqReached.l1 : Nat → List Bool → List Int → Int → Int → Int → Int → Int → List (S27) → Option (List Bool)
 | 0, _, _, _, _, _, _, _, _ => none
 | k + 1, x5, x6, x7, x8, x320102000, x320102001, x320102002, x320102003 => if x8 ≤ x320102001 then (if 0 ≤ x7 then (if x7 < (x6.length : Int) then ((spec_sqThrow.f k x320102000 x320102001 x320102002 x320102003 (rd x6 x7) x8).bind fun t320110 => (if 0 ≤ t320110 then (if t320110 < (x5.length : Int) then (if rdOf false x5 t320110 = true then (spec_sqReached.l1 k x5 x6 x7 (wrap64 (x8 + 1)) x320102000 x320102001 x320102002 x320102003) else (if x6.length < 17592186044416 then (spec_sqReached.l1 k (x5.set (t320110 : Int).toNat true) (x6 ++ [t320110]) x7 (wrap64 (x8 + 1)) x320102000 x320102001 x320102002 x320102003) else (none))) else (none)) else (none))) else (none)) else (none)) else (spec_sqReached.l0 k x5 x6 (wrap64 (x7 + 1)) x320102000 x320102001 x320102002 x320102003)
end
def spec_sqReached.f (k : Nat) (a0_0 : Int) (a0_1 : Int) (a0_2 : Int) (l0_3 : List (S27)) (a1 : Int) : Option (List Bool) := if 0 ≤ (wrap64 (a0_0 + 1)) then (if (wrap64 (a0_0 + 1) : Int).toNat ≤ 281474976710656 then ((some (List.replicate (wrap64 (a0_0 + 1) : Int).toNat false : List Bool)).bind fun y320102 => (if 0 ≤ a1 then (if a1 < (y320102.length : Int) then (spec_sqReached.l0 k (y320102.set (a1 : Int).toNat true) (([a1] : List Int)) 0 a0_0 a0_1 a0_2 l0_3) else (none)) else (none))) else (none)) else (none)
def spec_sqReached.T10 : Bool × List (List Nat × List Nat) := (true, [([], []), ([], []), ([], []), ([1, 2], [1, 2]), ([3], [3]), ([], []), ([0, 4, 5], [0, 4, 5]), ([6, 6, 0, 1, 2, 3, 4, 5, 6], [6])])
def spec_sqReached.B10 : List Nat := [0, 0, 0, 6, 14, 0, 63, 127]
theorem spec_sqReached.tab10 : rtab .any (opsOf Try.f160 10) = spec_sqReached.T10 := by kernel_rfl
theorem spec_sqReached.bits10 : waitsOk spec_sqReached.T10.2 spec_sqReached.B10 = true := by kernel_rfl
set_option maxHeartbeats 8000000 in
set_option maxRecDepth 100000 in
theorem spec_sqReached.calls (k : Nat) (a0_0 : Int) (a0_1 : Int) (a0_2 : Int) (A0_3 : Option Addr) (c0_3 : Nat) (l0_3 : List (S27)) (a1 : Int) (r : List Bool) (w : World) (hr0_3 : Kd.C k27 w A0_3 l0_3.length l0_3) (hc0_3 : l0_3.length ≤ c0_3) (h : spec_sqReached.f k a0_0 a0_1 a0_2 l0_3 a1 = some r) :
  Calls Try.prog 160 #[.agg #[.int .i64 a0_0, .int .i64 a0_1, .int .i64 a0_2, .slice A0_3 l0_3.length c0_3], .int .i64 a1] w fun e w' => ∃ v0_ : Value, e = .returned (v0_) ∧ Kd.R Kd.bool 4 w' w.heap.size (fun _ => True) v0_ r ∧ Below w.heap.size w w' := by
 have hu32 := Try.underlying32
 have HR0_3 := Aside0.mk hr0_3
 have HC0_3 := Aside0.mk hc0_3
 clear hr0_3 hc0_3
 have HB := Aside0.mk (Below.refl w.heap.size w)
 have H : (if 0 ≤ (wrap64 (a0_0 + 1)) then (if (wrap64 (a0_0 + 1) : Int).toNat ≤ 281474976710656 then ((some (List.replicate (wrap64 (a0_0 + 1) : Int).toNat false : List Bool)).bind fun y320102 => (if 0 ≤ a1 then (if a1 < (y320102.length : Int) then (spec_sqReached.l0 k (y320102.set (a1 : Int).toNat true) (([a1] : List Int)) 0 a0_0 a0_1 a0_2 l0_3) else (none)) else (none))) else (none)) else (none)) = some r := h
 clear h
 try clear hji2w
 try clear hji2
 try clear hji19w
 try clear hji19
 try clear hji2w
 try clear hji2
 try clear hji19w
 try clear hji19
 try clear hji4w
 try clear hji4
 try clear hji17w
 try clear hji17
 try clear hji3w
 try clear hji3
 try clear hji3w
 try clear hji3
 obtain ⟨ji3, hji3⟩ : ∃ j_ : Int, (wrap64 (a0_0 + 1)) = j_ := ⟨_, rfl⟩
 replace H : (if 0 ≤ (ji3) then (if (ji3 : Int).toNat ≤ 281474976710656 then ((some (List.replicate (ji3 : Int).toNat false : List Bool)).bind fun y320102 => (if 0 ≤ a1 then (if a1 < (y320102.length : Int) then (spec_sqReached.l0 k (y320102.set (a1 : Int).toNat true) (([a1] : List Int)) 0 a0_0 a0_1 a0_2 l0_3) else (none)) else (none))) else (none)) else (none)) = some r := by first | (rw [hji3] at H; exact H) | (simp only [hji3] at H ⊢; exact H)
 have hji3w : (IntKind.i64.wrap (a0_0 + 1)) = ji3 := (i64_w _).trans hji3
 by_cases c4 : 0 ≤ (ji3)
 ·rw [if_pos c4] at H
  have c4b0 := eq_true c4
  have c4b1 : decide (0 ≤ (ji3)) = true := decide_eq_true c4
  clear c4
  by_cases c5 : (ji3 : Int).toNat ≤ 281474976710656
  ·rw [if_pos c5] at H
   have c5b0 := eq_true c5
   have c5b1 : decide ((ji3 : Int).toNat ≤ 281474976710656) = true := decide_eq_true c5
   clear c5
   obtain ⟨y320102, hy320102⟩ : ∃ y_ : List Bool, y_ = (List.replicate (ji3 : Int).toNat false) := ⟨_, rfl⟩
   replace H : (if 0 ≤ a1 then (if a1 < (y320102.length : Int) then (spec_sqReached.l0 k (y320102.set (a1 : Int).toNat true) (([a1] : List Int)) 0 a0_0 a0_1 a0_2 l0_3) else (none)) else (none)) = some r := by first | (rw [hy320102]; with_reducible exact H) | (have H2_ := (Option.bind_some _ _).symm.trans H; rw [hy320102]; with_reducible exact H2_) | (have H2_ := (Option.bind_some _ _).symm.trans H; with_reducible exact H2_) | with_reducible exact H | (rw [hy320102]; exact H) | exact H
   have Ny320102 := Aside0.mk hy320102
   clear hy320102
   by_cases c6 : 0 ≤ a1
   ·rw [if_pos c6] at H
    have c6b0 : decide (0 ≤ a1) = true := decide_eq_true c6
    clear c6
    by_cases c7 : a1 < (y320102.length : Int)
    ·rw [if_pos c7] at H
     have c7b0 : decide (a1 < (y320102.length : Int)) = true := decide_eq_true c7
     clear c7
     obtain ⟨y320105, hy320105⟩ : ∃ y_ : List Bool, y_ = (y320102.set (a1 : Int).toNat true) := ⟨_, rfl⟩
     replace H : (spec_sqReached.l0 k y320105 (([a1] : List Int)) 0 a0_0 a0_1 a0_2 l0_3) = some r := by first | (rw [hy320105]; with_reducible exact H) | (have H2_ := (Option.bind_some _ _).symm.trans H; rw [hy320105]; with_reducible exact H2_) | (have H2_ := (Option.bind_some _ _).symm.trans H; with_reducible exact H2_) | with_reducible exact H | (rw [hy320105]; exact H) | exact H
     have Ny320105 := Aside0.mk hy320105
     clear hy320105
     obtain ⟨y320106, hy320106⟩ : ∃ y_ : List Int, y_ = (([a1] : List Int)) := ⟨_, rfl⟩
     replace H : (spec_sqReached.l0 k y320105 y320106 0 a0_0 a0_1 a0_2 l0_3) = some r := by first | (rw [hy320106]; with_reducible exact H) | (have H2_ := (Option.bind_some _ _).symm.trans H; rw [hy320106]; with_reducible exact H2_) | (have H2_ := (Option.bind_some _ _).symm.trans H; with_reducible exact H2_) | with_reducible exact H | (rw [hy320106]; exact H) | exact H
     have Ny320106 := Aside0.mk hy320106
     clear hy320106
     have H' := Aside0.mk H
     clear H
     go_enter Try.func160, Try.ntmps160
     go_wp2_with (first | ((with_reducible refine gate_dst (N := 2) rfl ?_); refine box_event ?hg (N := 2) ?hd (cs := #[.int .i64 a0_0, .int .i64 a0_1, .int .i64 a0_2, .slice A0_3 l0_3.length c0_3]) (t := 32) ?hr ?_; (case hd => rfl); (case hg => rfl); (case hr => first | (go_simp; done) | (go_simp; rfl)); intro gb320101 hg w9 hbox hb; have n0_ := Aside0.mk (below_step (by repeat (first | (with_reducible first | exact HB.out | apply below_alloc | apply pw_below_drewN | apply below_drew1) | exact HB.out)) hb); have n1_ := Aside0.mk (hbox); have n2_ := Aside0.mk ((by rw [hg]; exact (below_size (by repeat (first | (with_reducible first | exact HB.out | apply below_alloc | apply pw_below_drewN | apply below_drew1) | exact HB.out))) : w.heap.size ≤ gb320101)); have n3_ := Aside0.mk ((by rw [hg]; exact (below_size (by repeat (first | (with_reducible first | exact HB.out | apply below_alloc | apply pw_below_drewN | apply below_drew1) | exact HB.out))) : w.heap.size ≤ gb320101)); clear HB; have HB := n0_; have BK320101 := n1_; have GW320101 := n2_; have GE320101 := n3_; clear n0_ n1_ n2_ n3_; clear hb hbox hg; have hcz10_0 : w9.cell? ⟨gb320101, 0, none⟩ = some (.int .i64 a0_0) := (blk_cell BK320101.out 0).trans rfl; have hcz10_1 : w9.cell? ⟨gb320101, 1, none⟩ = some (.int .i64 a0_1) := (blk_cell BK320101.out 1).trans rfl; have hcz10_2 : w9.cell? ⟨gb320101, 2, none⟩ = some (.int .i64 a0_2) := (blk_cell BK320101.out 2).trans rfl; have hcz10_3 : w9.cell? ⟨gb320101, 3, none⟩ = some (.slice A0_3 l0_3.length c0_3) := (blk_cell BK320101.out 3).trans rfl; have hfz10_0 := blk_frozen BK320101.out 0; have hfz10_1 := blk_frozen BK320101.out 1; have hfz10_2 := blk_frozen BK320101.out 2; have hfz10_3 := blk_frozen BK320101.out 3) | ((with_reducible refine gate_dst (N := 13) rfl ?_); refine Kd.R_make Kd.bool _ 4 rfl (N := 13) rfl 121 _ _ rfl ji3 rfl rfl Try.underlying121 (.bool false) 1 info4 rfl (by decide) (by omega) false (ok := fun _ => True) (okp := fun _ => True) rfl (fun _ hk => hk) trivial (of_decide_eq_true (by first | (with_reducible assumption) | assumption)) (Nat.le_trans (Nat.mul_le_mul_right _ (of_decide_eq_true (by first | (with_reducible assumption) | assumption) : ji3.toNat ≤ 281474976710656)) (by omega)) (Below.refl _ _) (Nat.le_refl _) ?_; intro v320103 w11 ho12 hb hg_ hnew_; clear hg_ hnew_; (first | rw [← Ny320102.out] at ho12 | (simp only [Int.reduceToNat] at ho12; rw [← Ny320102.out] at ho12)); have n0_ := Aside0.mk (Kd.R_lower ho12 (below_size (by repeat (first | (with_reducible first | exact HB.out | apply below_alloc | apply pw_below_drewN | apply below_drew1 | refine below_set ?_ GE320101.out) | exact HB.out)))); have n1_ := Aside0.mk (blk_below (g := gb320101) (o := .cells #[.int .i64 a0_0, .int .i64 a0_1, .int .i64 a0_2, .slice A0_3 l0_3.length c0_3] 32 (0, 0)) (by (with_reducible repeat (first | refine blk_drewN ?_ _ | refine blk_drew ?_ | refine blk_alloc ?_ _)); exact BK320101.out) hb); have n2_ := Aside0.mk (below_step (by repeat (first | (with_reducible first | exact HB.out | apply below_alloc | apply pw_below_drewN | apply below_drew1 | refine below_set ?_ GE320101.out) | exact HB.out)) hb); clear BK320101; clear HB; have HO320104 := n0_; have BK320101 := n1_; have HB := n2_; clear n0_ n1_ n2_; clear hb ho12; have p8 : 0 ≤ (a1 : Int) := of_decide_eq_true (by first | (with_reducible assumption) | assumption); have q8 : (a1 : Int) < ((y320102.length : Int) : Int) := of_decide_eq_true (by first | (with_reducible assumption) | assumption); obtain ⟨go8, co8, eo8, gb8, gl8, cl8, HG8⟩ := Kd.R_form HO320104.out (by omega); (first | cases eo8 | (injection eo8 with ea_ en_ ec_; (first | subst ea_ | (injection ea_ with ea_; subst ea_)); subst ec_; clear en_)); have GB8 := Aside0.mk gb8; have GG8 := Aside0.mk HG8; clear gb8 gl8 HG8; obtain ⟨hx8_0, hf8_0⟩ := Kd.R_celln false HO320104.out (a1 : Int) p8 q8; replace p8 := eq_true p8; replace q8 := eq_true q8; obtain ⟨hy13_, hz13_⟩ := Kd.R_celln false HO320104.out (a1 : Int) (of_decide_eq_true (by first | (with_reducible assumption) | assumption)) (of_decide_eq_true (by first | (with_reducible assumption) | assumption)); have HP13 := Kd.R_putg HO320104.out (a1 : Int) true) | ((with_reducible refine gate_store (t := 4) (p := 16) rfl ?_); refine store_event (t := 4) (p := 16) (v := ?vo_w14) (w1 := (w11.setCell ⟨go8, (a1 : Int).toNat, none⟩ (.bool true))) ?hg ?ho ?hn ?hr ?_; (case ho => rfl); (case hg => rfl); (case hn => rfl); (case hr => first | (go_simp; done) | (go_simp; rfl)); intro w14 hw; have hg : w11.grownBy w14 (some go8) := (by rw [hw]; exact HP13.2); have hp_ : Kd.R Kd.bool 4 w14 w.heap.size (fun _ => True) (.slice (some ⟨go8, 0, none⟩) y320102.length co8) y320105 := (by rw [hw, Ny320105.out]; exact HP13.1); clear HP13; have n0_ := Aside0.mk (blk_grown (g := gb320101) (o := .cells #[.int .i64 a0_0, .int .i64 a0_1, .int .i64 a0_2, .slice A0_3 l0_3.length c0_3] 32 (0, 0)) (by (with_reducible repeat (first | refine blk_drewN ?_ _ | refine blk_drew ?_ | refine blk_alloc ?_ _)); exact BK320101.out) hg (Kd.R_ne HO320104.out BK320101.out (by decide))); have n1_ := Aside0.mk (hp_); have n2_ := Aside0.mk ((by rw [hw]; exact below_set (HB.out) GB8.out : Below w.heap.size w w14)); clear BK320101; clear HO320104; clear HB; have BK320101 := n0_; have HO320104 := n1_; have HB := n2_; clear n0_ n1_ n2_; clear hg hw hp_) | ((with_reducible refine gate_dst (N := 18) rfl ?_); refine Kd.R_lit (Kd.int .i64) _ 3 ?hg (N := 18) ?hd (xs := ([a1] : List Int)) (inner := [.int .i64 a1]) (ok := fun _ => True) (okp := fun _ => True) ?hr ?hp (fun _ hk => hk) trivial (Below.refl _ _) (Nat.le_refl _) (by simp) ?_; (case hd => rfl); (case hg => rfl); (case hr => first | (go_simp; done) | (go_simp; rfl)); (case hp => exact (Reps.one (show Kd.M (Kd.int .i64) _ _ _ a1 [.int .i64 a1] from rfl) (Reps.none _ _))); intro v320107 w15 ho16 hb hg_ hnew_; clear hg_ hnew_; (first | rw [← Ny320106.out] at ho16 | (simp only [Int.reduceToNat] at ho16; rw [← Ny320106.out] at ho16)); have n0_ := Aside0.mk (Kd.R_below (by (with_reducible repeat (first | apply Kd.R_alloc | apply Kd.R_drewN | apply Kd.R_drew)); exact HO320104.out) hb); have n1_ := Aside0.mk (Kd.R_lower ho16 (below_size (by repeat (first | (with_reducible first | exact HB.out | apply below_alloc | apply pw_below_drewN | apply below_drew1 | refine below_set ?_ GE320101.out) | exact HB.out)))); have n2_ := Aside0.mk (blk_below (g := gb320101) (o := .cells #[.int .i64 a0_0, .int .i64 a0_1, .int .i64 a0_2, .slice A0_3 l0_3.length c0_3] 32 (0, 0)) (by (with_reducible repeat (first | refine blk_drewN ?_ _ | refine blk_drew ?_ | refine blk_alloc ?_ _)); exact BK320101.out) hb); have n3_ := Aside0.mk (below_step (by repeat (first | (with_reducible first | exact HB.out | apply below_alloc | apply pw_below_drewN | apply below_drew1 | refine below_set ?_ GE320101.out) | exact HB.out)) hb); clear HO320104; clear BK320101; clear HB; have HO320104 := n0_; have HO320108 := n1_; have BK320101 := n2_; have HB := n3_; clear n0_ n1_ n2_ n3_; clear hb ho16))
     go_loopg [6, 7] k (fun kq v6 v7 w' => ∃ (x5_1 : List Bool) (x6_1 : List Int) (x7_1 : Int), v7 = .int .i64 x7_1 ∧ Aside0 (spec_sqReached.l0 kq x5_1 x6_1 x7_1 a0_0 a0_1 a0_2 l0_3 = some r) ∧ Aside0 (kq ≤ k) ∧ Aside0 (Kd.R Kd.bool 4 w' w.heap.size (fun _ => True) (.slice (some ⟨go8, 0, none⟩) y320102.length co8) x5_1) ∧ Aside0 (Kd.R (Kd.int .i64) 3 w' w.heap.size (fun _ => True) v6 x6_1) ∧ Aside0 (w'.heap[gb320101]? = some (.cells #[.int .i64 a0_0, .int .i64 a0_1, .int .i64 a0_2, (.slice A0_3 l0_3.length c0_3)] 32 (0, 0))) ∧ Aside0 (Below w.heap.size w w'))
     case atStart => exact ⟨(y320105), (y320106), (0), (by first | rfl | (simp; done) | (simp [*]; done)), H', ⟨Nat.le_refl _⟩, ⟨by (with_reducible repeat (first | apply Kd.R_alloc | apply Kd.R_drewN | apply Kd.R_drew)); exact HO320104.out⟩, ⟨by (with_reducible repeat (first | apply Kd.R_alloc | apply Kd.R_drewN | apply Kd.R_drew)); exact HO320108.out⟩, ⟨by (with_reducible repeat (first | refine blk_drewN ?_ _ | refine blk_drew ?_ | refine blk_alloc ?_ _)); exact BK320101.out⟩, ⟨by repeat (first | (with_reducible first | exact HB.out | apply below_alloc | apply pw_below_drewN | apply below_drew1 | refine below_set ?_ GE320101.out) | exact HB.out)⟩⟩
     case round =>
      clear H'
      try clear c1
      try clear p2
      try clear c4
      try clear c4b0
      try clear c4b1
      try clear c5
      try clear c5b0
      try clear c5b1
      try clear c6
      try clear c6b0
      try clear p6
      try clear c7
      try clear c7b0
      try clear p8
      try clear q8
      try clear hx8
      try clear hf8
      try clear c16
      try clear hcz10_0
      try clear hcz10_1
      try clear hcz10_2
      try clear hcz10_3
      try clear hfz10_0
      try clear hfz10_1
      try clear hfz10_2
      try clear hfz10_3
      try clear hx8_0
      try clear p8
      try clear q8
      obtain ⟨x5_1, x6_1, x7_1, rfl, HA, HK1, HO_5, HO_6, BK320101, HB⟩ := hrel
      have hl5_1 := (Kd.R_reads' HO_5.out).1
      rw [hl5_1] at HO_5
      (try simp only [hl5_1])
      (try simp only [hl5_1] at BK320101)
      (try simp only [hl5_1] at HO_6)
      cases gk with
      | zero => exact absurd HA.out (by simp [spec_sqReached.l0])
      | succ k1 =>
       have H := HA.out
       clear HA
       simp only [spec_sqReached.l0] at H
       by_cases c17 : x7_1 < (x6_1.length : Int)
       ·rw [if_pos c17] at H
        have c17b0 : decide (x7_1 < (x6_1.length : Int)) = true := decide_eq_true c17
        (try (have c17b0z := c17b0; rw [hl5_1] at c17b0z))
        clear c17
        have H' := Aside0.mk H
        clear H
        obtain ⟨Ao18, co18, eo18⟩ := Kd.R_slice HO_6.out
        subst eo18
        go_wp2
        go_loopg [6, 8] k1 (fun kq v6 v8 w' => ∃ (x5_2 : List Bool) (x6_2 : List Int) (x8_2 : Int), v8 = .int .i64 x8_2 ∧ Aside0 (spec_sqReached.l1 kq x5_2 x6_2 x7_1 x8_2 a0_0 a0_1 a0_2 l0_3 = some r) ∧ Aside0 (kq ≤ k1) ∧ Aside0 (Kd.R Kd.bool 4 w' w.heap.size (fun _ => True) (.slice (some ⟨go8, 0, none⟩) x5_1.length co8) x5_2) ∧ Aside0 (Kd.R (Kd.int .i64) 3 w' w.heap.size (fun _ => True) v6 x6_2) ∧ Aside0 (w'.heap[gb320101]? = some (.cells #[.int .i64 a0_0, .int .i64 a0_1, .int .i64 a0_2, (.slice A0_3 l0_3.length c0_3)] 32 (0, 0))) ∧ Aside0 (Below w.heap.size w w'))
        case atStart => exact ⟨(x5_1), (x6_1), (1), (by first | rfl | (simp; done) | (simp [*]; done)), H', ⟨Nat.le_refl _⟩, ⟨by (try simp only [hl5_1]); (with_reducible repeat (first | apply Kd.R_alloc | apply Kd.R_drewN | apply Kd.R_drew)); exact HO_5.out⟩, ⟨by (try simp only [hl5_1]); (with_reducible repeat (first | apply Kd.R_alloc | apply Kd.R_drewN | apply Kd.R_drew)); exact HO_6.out⟩, ⟨by (try simp only [hl5_1]); (with_reducible repeat (first | refine blk_drewN ?_ _ | refine blk_drew ?_ | refine blk_alloc ?_ _)); exact BK320101.out⟩, ⟨by repeat (first | (with_reducible first | exact HB.out | apply below_alloc | apply pw_below_drewN | apply below_drew1 | refine below_set ?_ GE320101.out) | exact HB.out)⟩⟩
        case round =>
         clear H'
         try clear c1
         try clear p2
         try clear c4
         try clear c4b0
         try clear c4b1
         try clear c5
         try clear c5b0
         try clear c5b1
         try clear c6
         try clear c6b0
         try clear p6
         try clear c7
         try clear c7b0
         try clear p8
         try clear q8
         try clear hx8
         try clear hf8
         try clear c16
         try clear c17
         try clear c17b0
         try clear hcz10_0
         try clear hcz10_1
         try clear hcz10_2
         try clear hcz10_3
         try clear hfz10_0
         try clear hfz10_1
         try clear hfz10_2
         try clear hfz10_3
         try clear hx8_0
         try clear p2
         try clear p6
         try clear p8
         try clear q8
         obtain ⟨x5_2, x6_2, x8_2, rfl, HA, HK2, HO_5, HO_6, BK320101, HB⟩ := hrel
         have hl5_2 := (Kd.R_reads' HO_5.out).1
         rw [hl5_2] at HO_5
         (try simp only [hl5_2])
         (try simp only [hl5_2] at BK320101)
         (try simp only [hl5_2] at HO_6)
         cases gk with
         | zero => exact absurd HA.out (by simp [spec_sqReached.l1])
         | succ k2 =>
          have H := HA.out
          clear HA
          simp only [spec_sqReached.l1] at H
          by_cases c19 : x8_2 ≤ a0_1
          ·rw [if_pos c19] at H
           have c19b0 : decide (x8_2 ≤ a0_1) = true := decide_eq_true c19
           clear c19
           by_cases c20 : 0 ≤ x7_1
           ·rw [if_pos c20] at H
            have c20b0 : decide (0 ≤ x7_1) = true := decide_eq_true c20
            clear c20
            by_cases c21 : x7_1 < (x6_2.length : Int)
            ·rw [if_pos c21] at H
             have c21b0 : decide (x7_1 < (x6_2.length : Int)) = true := decide_eq_true c21
             (try (have c21b0z := c21b0; rw [hl5_1] at c21b0z))
             (try (have c21b0z := c21b0; rw [hl5_2] at c21b0z))
             clear c21
             replace H := Option.bind_eq_some_iff.mp H
             obtain ⟨t320110, A220, H⟩ := H
             replace H : (if 0 ≤ t320110 then (if t320110 < (x5_2.length : Int) then (if rdOf false x5_2 t320110 = true then (spec_sqReached.l1 k2 x5_2 x6_2 x7_1 (wrap64 (x8_2 + 1)) a0_0 a0_1 a0_2 l0_3) else (if x6_2.length < 17592186044416 then (spec_sqReached.l1 k2 (x5_2.set (t320110 : Int).toNat true) (x6_2 ++ [t320110]) x7_1 (wrap64 (x8_2 + 1)) a0_0 a0_1 a0_2 l0_3) else (none))) else (none)) else (none)) = some r := H
             have A22 := Aside0.mk A220
             clear A220
             by_cases c23 : 0 ≤ t320110
             ·rw [if_pos c23] at H
              have c23b0 : decide (0 ≤ t320110) = true := decide_eq_true c23
              clear c23
              by_cases c24 : t320110 < (x5_2.length : Int)
              ·rw [if_pos c24] at H
               have c24b0 : decide (t320110 < (x5_2.length : Int)) = true := decide_eq_true c24
               (try (have c24b0z := c24b0; rw [hl5_1] at c24b0z))
               (try (have c24b0z := c24b0; rw [hl5_2] at c24b0z))
               clear c24
               obtain ⟨bq25, hbq25⟩ : ∃ b_ : Bool, b_ = (rdOf false x5_2 t320110) := ⟨_, rfl⟩
               replace H : (if bq25 = true then (spec_sqReached.l1 k2 x5_2 x6_2 x7_1 (wrap64 (x8_2 + 1)) a0_0 a0_1 a0_2 l0_3) else (if x6_2.length < 17592186044416 then (spec_sqReached.l1 k2 (x5_2.set (t320110 : Int).toNat true) (x6_2 ++ [t320110]) x7_1 (wrap64 (x8_2 + 1)) a0_0 a0_1 a0_2 l0_3) else (none))) = some r := by rw [← hbq25] at H; exact H
               have Nbq25 := Aside0.mk hbq25
               clear hbq25
               by_cases c26 : bq25 = true
               ·subst c26
                have H1 : (spec_sqReached.l1 k2 x5_2 x6_2 x7_1 (wrap64 (x8_2 + 1)) a0_0 a0_1 a0_2 l0_3) = some r := by rw [if_pos rfl] at H; exact H
                clear H
                have H := H1
                clear H1
                have H' := Aside0.mk H
                clear H
                have hcz27_0 : wr.cell? ⟨gb320101, 0, none⟩ = some (.int .i64 a0_0) := (blk_cell BK320101.out 0).trans rfl
                have hcz27_1 : wr.cell? ⟨gb320101, 1, none⟩ = some (.int .i64 a0_1) := (blk_cell BK320101.out 1).trans rfl
                have hcz27_2 : wr.cell? ⟨gb320101, 2, none⟩ = some (.int .i64 a0_2) := (blk_cell BK320101.out 2).trans rfl
                have hcz27_3 : wr.cell? ⟨gb320101, 3, none⟩ = some (.slice A0_3 l0_3.length c0_3) := (blk_cell BK320101.out 3).trans rfl
                have hfz27_0 := blk_frozen BK320101.out 0
                have hfz27_1 := blk_frozen BK320101.out 1
                have hfz27_2 := blk_frozen BK320101.out 2
                have hfz27_3 := blk_frozen BK320101.out 3
                try go_wp2
                have n0_ := Aside0.mk (Kd.R_drew HO_5.out)
                have n1_ := Aside0.mk (Kd.R_drew HO_6.out)
                have n2_ := Aside0.mk (blk_drew BK320101.out)
                have n3_ := Aside0.mk (below_drew1 HB.out)
                clear HO_5
                clear HO_6
                clear BK320101
                clear HB
                have HO_5 := n0_
                have HO_6 := n1_
                have BK320101 := n2_
                have HB := n3_
                clear n0_ n1_ n2_ n3_
                obtain ⟨Ao29, co29, eo29⟩ := Kd.R_slice HO_6.out
                (first | subst eo29 | (injection eo29 with f1_ f2_ f3_; have f4_ := f1_.symm; have f5_ := f3_.symm; clear f1_ f2_ f3_; subst f4_; subst f5_))
                have p320109 : 0 ≤ (x7_1 : Int) := of_decide_eq_true (by first | (with_reducible assumption) | assumption)
                have q320109 : x7_1 < (x6_2.length : Int) := of_decide_eq_true (by first | (with_reducible assumption) | assumption)
                obtain ⟨ad320109, e320109, hx320109_0⟩ := Kd.at_int (Kd.R_reads' HO_6.out).2.2 x7_1 p320109 q320109
                cases e320109
                replace p320109 := eq_true p320109
                replace q320109 := eq_true q320109
                refine start_ (n := 8) (S := fun w' => w'.cell? ⟨gb320101, 0, none⟩ = some (.int .i64 a0_0) ∧ w'.cell? ⟨gb320101, 1, none⟩ = some (.int .i64 a0_1) ∧ w'.cell? ⟨gb320101, 2, none⟩ = some (.int .i64 a0_2) ∧ w'.cell? ⟨gb320101, 3, none⟩ = some (.slice A0_3 l0_3.length c0_3) ∧ w'.cell? (ad320109.add (x7_1).toNat) = some (.int .i64 (rd x6_2 x7_1))) (ds := []) bSpecSqReached_0 (by kernel_rfl) rfl rfl ⟨(blk_cell BK320101.out 0).trans rfl, (blk_cell BK320101.out 1).trans rfl, (blk_cell BK320101.out 2).trans rfl, (blk_cell BK320101.out 3).trans rfl, hx320109_0⟩ (fun hHeld => ?_); refine with_tabW spec_sqReached.tab10 spec_sqReached.bits10 (fun HT_ HW_ => ?_)
                generalize wr.drew = w28 at HO_5 HO_6 BK320101 HB hx320109_0 hHeld ⊢
                refine pure_ (i := 1) (N := some 32) (v := ?_) (a' := ?_) bSpecSqReached_1 rfl rfl (any_of HT_.out (by kernel_rfl)) (fun _ _ _ h => h) (Or.inl ⟨by rfl, ?_⟩) ?_ ?_
                rotate_left
                ·intro w'
                 go_simp
                 with_reducible rfl
                rotate_left
                ·simp only [Act.put, List.setIfInBounds_toArray, List.set_cons_zero, List.set_cons_succ, i64_w, i32_w]
                 rfl
                refine pure_ (i := 2) (N := some 33) (v := ?_) (a' := ?_) bSpecSqReached_2 rfl rfl (any_of HT_.out (by kernel_rfl)) (fun _ _ _ h => h) (Or.inl ⟨by rfl, ?_⟩) ?_ ?_
                rotate_left
                ·intro w'
                 go_simp
                 with_reducible rfl
                rotate_left
                ·simp only [Act.put, List.setIfInBounds_toArray, List.set_cons_zero, List.set_cons_succ, i64_w, i32_w]
                 rfl
                refine pure_ (i := 3) (N := some 34) (v := ?_) (a' := ?_) bSpecSqReached_3 rfl rfl (any_of HT_.out (by kernel_rfl)) (fun _ _ _ h => h) (Or.inl ⟨by rfl, ?_⟩) ?_ ?_
                rotate_left
                ·intro w'
                 go_simp
                 with_reducible rfl
                rotate_left
                ·simp only [Act.put, List.setIfInBounds_toArray, List.set_cons_zero, List.set_cons_succ, i64_w, i32_w]
                 rfl
                refine pure_ (i := 5) (N := some 36) (v := ?_) (a' := ?_) bSpecSqReached_4 rfl rfl (any_of HT_.out (by kernel_rfl)) (fun _ _ _ h => h) (Or.inl ⟨by rfl, ?_⟩) ?_ ?_
                rotate_left
                ·intro w'
                 go_simp
                 with_reducible rfl
                rotate_left
                ·simp only [Act.put, List.setIfInBounds_toArray, List.set_cons_zero, List.set_cons_succ, i64_w, i32_w]
                 rfl
                refine take_ (i := 0) (N := some 31) (v := ?_) (a' := ?_) bSpecSqReached_5 rfl rfl (take_ofW HT_.out HW_.out (by kernel_rfl)) (fun _ _ _ h => h) (Or.inl ⟨by rfl, ?_⟩) hHeld ?_ ?_
                rotate_left
                ·rintro w' ⟨s0, s1, s2, s3, s4⟩
                 go_simp
                 with_reducible rfl
                rotate_left
                ·simp only [Act.put, List.setIfInBounds_toArray, List.set_cons_zero, List.set_cons_succ, i64_w, i32_w]
                 rfl
                refine take_ (i := 4) (N := some 35) (v := ?_) (a' := ?_) bSpecSqReached_6 rfl rfl (take_ofW HT_.out HW_.out (by kernel_rfl)) (fun _ _ _ h => h) (Or.inl ⟨by rfl, ?_⟩) hHeld ?_ ?_
                rotate_left
                ·rintro w' ⟨s0, s1, s2, s3, s4⟩
                 go_simp
                 with_reducible rfl
                rotate_left
                ·simp only [Act.put, List.setIfInBounds_toArray, List.set_cons_zero, List.set_cons_succ, i64_w, i32_w]
                 rfl
                refine one_ (i := 6) (N := some 37) bSpecSqReached_7 rfl rfl (one_of HT_.out (by kernel_rfl)) (by decide) (fun K hK => ?_)
                refine goes_ Try.func137 (by kernel_rfl) rfl #[.agg #[.int .i64 a0_0, .int .i64 a0_1, .int .i64 a0_2, .slice A0_3 l0_3.length c0_3], .int .i64 (rd x6_2 x7_1), .int .i64 x8_2] (by rfl) rfl rfl (by (try simp only [List.map_toArray, List.map_cons, List.map_nil]); first | done | rfl | (simp only [List.length_drop, List.length_take]; rfl)) ?_
                with_reducible refine (spec_sqThrow.calls k2 a0_0 a0_1 a0_2 _ _ l0_3 (rd x6_2 x7_1) x8_2 t320110 _ ?side1 ?side2 A22.out).mono ?_
                (case side1 => repeat (first | exact (Kd.C_below HR0_3.out HB.out) | (with_reducible refine Kd.C_alloc ?_ _) | (with_reducible refine Kd.C_drewN ?_ _) | (with_reducible refine Kd.C_drew ?_)))
                (case side2 => exact HC0_3.out)
                rintro e w30 ⟨rfl, hb⟩
                have HS4_ := (hb.cell (World.block_lt_of_cell? _ _ (hHeld.2.2.2.2))).trans (hHeld.2.2.2.2)
                refine ⟨_, rfl, ?_⟩
                have n0_ := Aside0.mk (Kd.R_below (by (with_reducible repeat (first | apply Kd.R_alloc | apply Kd.R_drewN | apply Kd.R_drew)); exact HO_5.out) hb)
                have n1_ := Aside0.mk (Kd.R_below (by (with_reducible repeat (first | apply Kd.R_alloc | apply Kd.R_drewN | apply Kd.R_drew)); exact HO_6.out) hb)
                have n2_ := Aside0.mk (blk_below (g := gb320101) (o := .cells #[.int .i64 a0_0, .int .i64 a0_1, .int .i64 a0_2, .slice A0_3 l0_3.length c0_3] 32 (0, 0)) (by (with_reducible repeat (first | refine blk_drewN ?_ _ | refine blk_drew ?_ | refine blk_alloc ?_ _)); exact BK320101.out) hb)
                have n3_ := Aside0.mk (below_step (by repeat (first | (with_reducible first | exact HB.out | apply below_alloc | apply pw_below_drewN | apply below_drew1 | refine below_set ?_ GE320101.out) | exact HB.out)) hb)
                clear HO_5
                clear HO_6
                clear BK320101
                clear HB
                have HO_5 := n0_
                have HO_6 := n1_
                have BK320101 := n2_
                have HB := n3_
                clear n0_ n1_ n2_ n3_
                (try clear hb)
                (try clear hb2)
                (try clear hk)
                (try clear hi)
                refine hK.out _ _ ⟨(blk_cell BK320101.out 0).trans rfl, (blk_cell BK320101.out 1).trans rfl, (blk_cell BK320101.out 2).trans rfl, (blk_cell BK320101.out 3).trans rfl, HS4_⟩ (fun hHeld => ?_)
                clear hK K
                refine norm_ (a' := ?_) ?_ ?_
                rotate_left
                ·show Act.put _ (some 37) _ = _
                 simp only [Act.put, List.setIfInBounds_toArray, List.set_cons_zero, List.set_cons_succ, i64_w, i32_w]
                 rfl
                refine pure_ (i := 7) (N := some 9) (v := ?_) (a' := ?_) bSpecSqReached_8 rfl rfl (any_of HT_.out (by kernel_rfl)) (fun _ _ _ h => h) (Or.inl ⟨by rfl, ?_⟩) ?_ ?_
                rotate_left
                ·intro w'
                 go_simp
                 with_reducible rfl
                rotate_left
                ·simp only [Act.put, List.setIfInBounds_toArray, List.set_cons_zero, List.set_cons_succ, i64_w, i32_w]
                 rfl
                refine done_ (done_of HT_.out (by kernel_rfl)) ?_
                have p320111 : 0 ≤ (t320110 : Int) := of_decide_eq_true (by first | (with_reducible assumption) | assumption)
                have q320111 : t320110 < (x5_2.length : Int) := of_decide_eq_true (by first | (with_reducible assumption) | assumption)
                obtain ⟨ad320111, e320111, hx320111_0⟩ := Kd.at_bool (Kd.R_reads' HO_5.out).2.2 t320110 p320111 q320111
                (try rw [← Nbq25.out] at hx320111_0)
                obtain rfl : (⟨go8, 0, none⟩ : Addr) = ad320111 := (by injection e320111)
                (first | simp only [add_plain] at hx320111_0 | simp only [add_at] at hx320111_0 | simp only [Addr.add, Nat.zero_add] at hx320111_0 | skip)
                replace p320111 := eq_true p320111
                replace q320111 := eq_true q320111
                try go_wp2
                (try simp only [← hl5_2])
                go_roundg k2
                case measure => have := HK1.out; have := HK2.out; omega
                case rel => exact ⟨(x5_2), (x6_2), (wrap64 (x8_2 + 1)), (by first | rfl | (simp; done) | (simp [*]; done)), H', ⟨by have := HK1.out; have := HK2.out; omega⟩, ⟨by (try simp only [hl5_1]); (try simp only [hl5_2]); (with_reducible repeat (first | apply Kd.R_alloc | apply Kd.R_drewN | apply Kd.R_drew)); exact HO_5.out⟩, ⟨by (try simp only [hl5_1]); (try simp only [hl5_2]); (with_reducible repeat (first | apply Kd.R_alloc | apply Kd.R_drewN | apply Kd.R_drew)); exact HO_6.out⟩, ⟨by (try simp only [hl5_1]); (try simp only [hl5_2]); (with_reducible repeat (first | refine blk_drewN ?_ _ | refine blk_drew ?_ | refine blk_alloc ?_ _)); exact BK320101.out⟩, ⟨by repeat (first | (with_reducible first | exact HB.out | apply below_alloc | apply pw_below_drewN | apply below_drew1 | refine below_set ?_ GE320101.out) | exact HB.out)⟩⟩
               ·replace c26 := Bool.eq_false_iff.mpr c26
                subst c26
                have H1 : (if x6_2.length < 17592186044416 then (spec_sqReached.l1 k2 (x5_2.set (t320110 : Int).toNat true) (x6_2 ++ [t320110]) x7_1 (wrap64 (x8_2 + 1)) a0_0 a0_1 a0_2 l0_3) else (none)) = some r := by rw [if_neg (show ¬ (false = true) by decide)] at H; exact H
                clear H
                have H := H1
                clear H1
                obtain ⟨y320112, hy320112⟩ : ∃ y_ : List Bool, y_ = (x5_2.set (t320110 : Int).toNat true) := ⟨_, rfl⟩
                replace H : (if x6_2.length < 17592186044416 then (spec_sqReached.l1 k2 y320112 (x6_2 ++ [t320110]) x7_1 (wrap64 (x8_2 + 1)) a0_0 a0_1 a0_2 l0_3) else (none)) = some r := by first | (rw [hy320112]; with_reducible exact H) | (have H2_ := (Option.bind_some _ _).symm.trans H; rw [hy320112]; with_reducible exact H2_) | (have H2_ := (Option.bind_some _ _).symm.trans H; with_reducible exact H2_) | with_reducible exact H | (rw [hy320112]; exact H) | exact H
                have Ny320112 := Aside0.mk hy320112
                clear hy320112
                by_cases c32 : x6_2.length < 17592186044416
                ·rw [if_pos c32] at H
                 have LMc32 := Aside0.mk c32
                 clear c32
                 obtain ⟨y320113, hy320113⟩ : ∃ y_ : List Int, y_ = (x6_2 ++ [t320110]) := ⟨_, rfl⟩
                 replace H : (spec_sqReached.l1 k2 y320112 y320113 x7_1 (wrap64 (x8_2 + 1)) a0_0 a0_1 a0_2 l0_3) = some r := by first | (rw [hy320113]; with_reducible exact H) | (have H2_ := (Option.bind_some _ _).symm.trans H; rw [hy320113]; with_reducible exact H2_) | (have H2_ := (Option.bind_some _ _).symm.trans H; with_reducible exact H2_) | with_reducible exact H | (rw [hy320113]; exact H) | exact H
                 have Ny320113 := Aside0.mk hy320113
                 clear hy320113
                 have H' := Aside0.mk H
                 clear H
                 have hcz33_0 : wr.cell? ⟨gb320101, 0, none⟩ = some (.int .i64 a0_0) := (blk_cell BK320101.out 0).trans rfl
                 have hcz33_1 : wr.cell? ⟨gb320101, 1, none⟩ = some (.int .i64 a0_1) := (blk_cell BK320101.out 1).trans rfl
                 have hcz33_2 : wr.cell? ⟨gb320101, 2, none⟩ = some (.int .i64 a0_2) := (blk_cell BK320101.out 2).trans rfl
                 have hcz33_3 : wr.cell? ⟨gb320101, 3, none⟩ = some (.slice A0_3 l0_3.length c0_3) := (blk_cell BK320101.out 3).trans rfl
                 have hfz33_0 := blk_frozen BK320101.out 0
                 have hfz33_1 := blk_frozen BK320101.out 1
                 have hfz33_2 := blk_frozen BK320101.out 2
                 have hfz33_3 := blk_frozen BK320101.out 3
                 try go_wp2
                 have n0_ := Aside0.mk (Kd.R_drew HO_5.out)
                 have n1_ := Aside0.mk (Kd.R_drew HO_6.out)
                 have n2_ := Aside0.mk (blk_drew BK320101.out)
                 have n3_ := Aside0.mk (below_drew1 HB.out)
                 clear HO_5
                 clear HO_6
                 clear BK320101
                 clear HB
                 have HO_5 := n0_
                 have HO_6 := n1_
                 have BK320101 := n2_
                 have HB := n3_
                 clear n0_ n1_ n2_ n3_
                 obtain ⟨Ao35, co35, eo35⟩ := Kd.R_slice HO_6.out
                 (first | subst eo35 | (injection eo35 with f1_ f2_ f3_; have f4_ := f1_.symm; have f5_ := f3_.symm; clear f1_ f2_ f3_; subst f4_; subst f5_))
                 have p320109 : 0 ≤ (x7_1 : Int) := of_decide_eq_true (by first | (with_reducible assumption) | assumption)
                 have q320109 : x7_1 < (x6_2.length : Int) := of_decide_eq_true (by first | (with_reducible assumption) | assumption)
                 obtain ⟨ad320109, e320109, hx320109_0⟩ := Kd.at_int (Kd.R_reads' HO_6.out).2.2 x7_1 p320109 q320109
                 cases e320109
                 replace p320109 := eq_true p320109
                 replace q320109 := eq_true q320109
                 refine start_ (n := 8) (S := fun w' => w'.cell? ⟨gb320101, 0, none⟩ = some (.int .i64 a0_0) ∧ w'.cell? ⟨gb320101, 1, none⟩ = some (.int .i64 a0_1) ∧ w'.cell? ⟨gb320101, 2, none⟩ = some (.int .i64 a0_2) ∧ w'.cell? ⟨gb320101, 3, none⟩ = some (.slice A0_3 l0_3.length c0_3) ∧ w'.cell? (ad320109.add (x7_1).toNat) = some (.int .i64 (rd x6_2 x7_1))) (ds := []) bSpecSqReached_0 (by kernel_rfl) rfl rfl ⟨(blk_cell BK320101.out 0).trans rfl, (blk_cell BK320101.out 1).trans rfl, (blk_cell BK320101.out 2).trans rfl, (blk_cell BK320101.out 3).trans rfl, hx320109_0⟩ (fun hHeld => ?_); refine with_tabW spec_sqReached.tab10 spec_sqReached.bits10 (fun HT_ HW_ => ?_)
                 generalize wr.drew = w34 at HO_5 HO_6 BK320101 HB hx320109_0 hHeld ⊢
                 refine pure_ (i := 1) (N := some 32) (v := ?_) (a' := ?_) bSpecSqReached_1 rfl rfl (any_of HT_.out (by kernel_rfl)) (fun _ _ _ h => h) (Or.inl ⟨by rfl, ?_⟩) ?_ ?_
                 rotate_left
                 ·intro w'
                  go_simp
                  with_reducible rfl
                 rotate_left
                 ·simp only [Act.put, List.setIfInBounds_toArray, List.set_cons_zero, List.set_cons_succ, i64_w, i32_w]
                  rfl
                 refine pure_ (i := 2) (N := some 33) (v := ?_) (a' := ?_) bSpecSqReached_2 rfl rfl (any_of HT_.out (by kernel_rfl)) (fun _ _ _ h => h) (Or.inl ⟨by rfl, ?_⟩) ?_ ?_
                 rotate_left
                 ·intro w'
                  go_simp
                  with_reducible rfl
                 rotate_left
                 ·simp only [Act.put, List.setIfInBounds_toArray, List.set_cons_zero, List.set_cons_succ, i64_w, i32_w]
                  rfl
                 refine pure_ (i := 3) (N := some 34) (v := ?_) (a' := ?_) bSpecSqReached_3 rfl rfl (any_of HT_.out (by kernel_rfl)) (fun _ _ _ h => h) (Or.inl ⟨by rfl, ?_⟩) ?_ ?_
                 rotate_left
                 ·intro w'
                  go_simp
                  with_reducible rfl
                 rotate_left
                 ·simp only [Act.put, List.setIfInBounds_toArray, List.set_cons_zero, List.set_cons_succ, i64_w, i32_w]
                  rfl
                 refine pure_ (i := 5) (N := some 36) (v := ?_) (a' := ?_) bSpecSqReached_4 rfl rfl (any_of HT_.out (by kernel_rfl)) (fun _ _ _ h => h) (Or.inl ⟨by rfl, ?_⟩) ?_ ?_
                 rotate_left
                 ·intro w'
                  go_simp
                  with_reducible rfl
                 rotate_left
                 ·simp only [Act.put, List.setIfInBounds_toArray, List.set_cons_zero, List.set_cons_succ, i64_w, i32_w]
                  rfl
                 refine take_ (i := 0) (N := some 31) (v := ?_) (a' := ?_) bSpecSqReached_5 rfl rfl (take_ofW HT_.out HW_.out (by kernel_rfl)) (fun _ _ _ h => h) (Or.inl ⟨by rfl, ?_⟩) hHeld ?_ ?_
                 rotate_left
                 ·rintro w' ⟨s0, s1, s2, s3, s4⟩
                  go_simp
                  with_reducible rfl
                 rotate_left
                 ·simp only [Act.put, List.setIfInBounds_toArray, List.set_cons_zero, List.set_cons_succ, i64_w, i32_w]
                  rfl
                 refine take_ (i := 4) (N := some 35) (v := ?_) (a' := ?_) bSpecSqReached_6 rfl rfl (take_ofW HT_.out HW_.out (by kernel_rfl)) (fun _ _ _ h => h) (Or.inl ⟨by rfl, ?_⟩) hHeld ?_ ?_
                 rotate_left
                 ·rintro w' ⟨s0, s1, s2, s3, s4⟩
                  go_simp
                  with_reducible rfl
                 rotate_left
                 ·simp only [Act.put, List.setIfInBounds_toArray, List.set_cons_zero, List.set_cons_succ, i64_w, i32_w]
                  rfl
                 refine one_ (i := 6) (N := some 37) bSpecSqReached_7 rfl rfl (one_of HT_.out (by kernel_rfl)) (by decide) (fun K hK => ?_)
                 refine goes_ Try.func137 (by kernel_rfl) rfl #[.agg #[.int .i64 a0_0, .int .i64 a0_1, .int .i64 a0_2, .slice A0_3 l0_3.length c0_3], .int .i64 (rd x6_2 x7_1), .int .i64 x8_2] (by rfl) rfl rfl (by (try simp only [List.map_toArray, List.map_cons, List.map_nil]); first | done | rfl | (simp only [List.length_drop, List.length_take]; rfl)) ?_
                 with_reducible refine (spec_sqThrow.calls k2 a0_0 a0_1 a0_2 _ _ l0_3 (rd x6_2 x7_1) x8_2 t320110 _ ?side1 ?side2 A22.out).mono ?_
                 (case side1 => repeat (first | exact (Kd.C_below HR0_3.out HB.out) | (with_reducible refine Kd.C_alloc ?_ _) | (with_reducible refine Kd.C_drewN ?_ _) | (with_reducible refine Kd.C_drew ?_)))
                 (case side2 => exact HC0_3.out)
                 rintro e w36 ⟨rfl, hb⟩
                 have HS4_ := (hb.cell (World.block_lt_of_cell? _ _ (hHeld.2.2.2.2))).trans (hHeld.2.2.2.2)
                 refine ⟨_, rfl, ?_⟩
                 have n0_ := Aside0.mk (Kd.R_below (by (with_reducible repeat (first | apply Kd.R_alloc | apply Kd.R_drewN | apply Kd.R_drew)); exact HO_5.out) hb)
                 have n1_ := Aside0.mk (Kd.R_below (by (with_reducible repeat (first | apply Kd.R_alloc | apply Kd.R_drewN | apply Kd.R_drew)); exact HO_6.out) hb)
                 have n2_ := Aside0.mk (blk_below (g := gb320101) (o := .cells #[.int .i64 a0_0, .int .i64 a0_1, .int .i64 a0_2, .slice A0_3 l0_3.length c0_3] 32 (0, 0)) (by (with_reducible repeat (first | refine blk_drewN ?_ _ | refine blk_drew ?_ | refine blk_alloc ?_ _)); exact BK320101.out) hb)
                 have n3_ := Aside0.mk (below_step (by repeat (first | (with_reducible first | exact HB.out | apply below_alloc | apply pw_below_drewN | apply below_drew1 | refine below_set ?_ GE320101.out) | exact HB.out)) hb)
                 clear HO_5
                 clear HO_6
                 clear BK320101
                 clear HB
                 have HO_5 := n0_
                 have HO_6 := n1_
                 have BK320101 := n2_
                 have HB := n3_
                 clear n0_ n1_ n2_ n3_
                 (try clear hb)
                 (try clear hb2)
                 (try clear hk)
                 (try clear hi)
                 refine hK.out _ _ ⟨(blk_cell BK320101.out 0).trans rfl, (blk_cell BK320101.out 1).trans rfl, (blk_cell BK320101.out 2).trans rfl, (blk_cell BK320101.out 3).trans rfl, HS4_⟩ (fun hHeld => ?_)
                 clear hK K
                 refine norm_ (a' := ?_) ?_ ?_
                 rotate_left
                 ·show Act.put _ (some 37) _ = _
                  simp only [Act.put, List.setIfInBounds_toArray, List.set_cons_zero, List.set_cons_succ, i64_w, i32_w]
                  rfl
                 refine pure_ (i := 7) (N := some 9) (v := ?_) (a' := ?_) bSpecSqReached_8 rfl rfl (any_of HT_.out (by kernel_rfl)) (fun _ _ _ h => h) (Or.inl ⟨by rfl, ?_⟩) ?_ ?_
                 rotate_left
                 ·intro w'
                  go_simp
                  with_reducible rfl
                 rotate_left
                 ·simp only [Act.put, List.setIfInBounds_toArray, List.set_cons_zero, List.set_cons_succ, i64_w, i32_w]
                  rfl
                 refine done_ (done_of HT_.out (by kernel_rfl)) ?_
                 have p320111 : 0 ≤ (t320110 : Int) := of_decide_eq_true (by first | (with_reducible assumption) | assumption)
                 have q320111 : t320110 < (x5_2.length : Int) := of_decide_eq_true (by first | (with_reducible assumption) | assumption)
                 obtain ⟨ad320111, e320111, hx320111_0⟩ := Kd.at_bool (Kd.R_reads' HO_5.out).2.2 t320110 p320111 q320111
                 (try rw [← Nbq25.out] at hx320111_0)
                 obtain rfl : (⟨go8, 0, none⟩ : Addr) = ad320111 := (by injection e320111)
                 (first | simp only [add_plain] at hx320111_0 | simp only [add_at] at hx320111_0 | simp only [Addr.add, Nat.zero_add] at hx320111_0 | skip)
                 replace p320111 := eq_true p320111
                 replace q320111 := eq_true q320111
                 have p31 : 0 ≤ (t320110 : Int) := of_decide_eq_true (by first | (with_reducible assumption) | assumption)
                 have q31 : (t320110 : Int) < ((x5_2.length : Int) : Int) := of_decide_eq_true (by first | (with_reducible assumption) | assumption)
                 obtain ⟨hx31_0, hf31_0⟩ := Kd.R_celln false HO_5.out (t320110 : Int) p31 q31
                 replace p31 := eq_true p31
                 replace q31 := eq_true q31
                 obtain ⟨hy37_, hz37_⟩ := Kd.R_celln false HO_5.out (t320110 : Int) (of_decide_eq_true (by first | (with_reducible assumption) | assumption)) (of_decide_eq_true (by first | (with_reducible assumption) | assumption))
                 have HP37 := Kd.R_putg HO_5.out (t320110 : Int) true
                 try go_wp2_with (first | ((with_reducible refine gate_store (t := 4) (p := 45) rfl ?_); refine store_event (t := 4) (p := 45) (v := ?vo_w38) (w1 := (w36.setCell ⟨go8, (t320110 : Int).toNat, none⟩ (.bool true))) ?hg ?ho ?hn ?hr ?_; (case ho => rfl); (case hg => rfl); (case hn => rfl); (case hr => first | (go_simp; done) | (go_simp; rfl)); intro w38 hw; have hg : w36.grownBy w38 (some go8) := (by rw [hw]; exact HP37.2); have hp_ : Kd.R Kd.bool 4 w38 w.heap.size (fun _ => True) (.slice (some ⟨go8, 0, none⟩) x5_2.length co8) y320112 := (by rw [hw, Ny320112.out]; exact HP37.1); clear HP37; have n0_ := Aside0.mk (hp_); have n1_ := Aside0.mk (Kd.R_over' (v := (.slice (some ⟨go8, 0, none⟩) x5_2.length co8)) (by (with_reducible repeat (first | apply Kd.R_alloc | apply Kd.R_drewN | apply Kd.R_drew)); exact HO_6.out) (Kd.R_typed HO_5.out) (by decide) hg); have n2_ := Aside0.mk (blk_grown (g := gb320101) (o := .cells #[.int .i64 a0_0, .int .i64 a0_1, .int .i64 a0_2, .slice A0_3 l0_3.length c0_3] 32 (0, 0)) (by (with_reducible repeat (first | refine blk_drewN ?_ _ | refine blk_drew ?_ | refine blk_alloc ?_ _)); exact BK320101.out) hg (Kd.R_ne HO_5.out BK320101.out (by decide))); have n3_ := Aside0.mk ((by rw [hw]; exact below_set (HB.out) GB8.out : Below w.heap.size w w38)); clear HO_5; clear HO_6; clear BK320101; clear HB; have HO_5 := n0_; have HO_6 := n1_; have BK320101 := n2_; have HB := n3_; clear n0_ n1_ n2_ n3_; clear hg hw hp_) | ((with_reducible refine gate_builtin (b := .append) (xs := #[.tmp 46, .tmp 48]) rfl ?_); at_builtin; refine Kd.R_append (Kd.int .i64) (w0 := w) w.heap.size rfl (.tmp 46) (.tmp 48) 58 3 (.int .i64 0) 8 rfl Try.underlying58 info3 rfl (by decide) (by omega) (.slice (some ad320109) x6_2.length co35) x6_2 t320110 [.int .i64 t320110] (fun _ => True) (fun _ => False) rfl rfl ?aP (fun _ hk => hk.elim) ?aF ?aO ?aB ?aS ?aL ?_; (case aP => exact rfl); (case aB => exact (by repeat (first | (with_reducible first | exact HB.out | apply below_alloc | apply pw_below_drewN | apply below_drew1 | refine below_set ?_ GE320101.out) | exact HB.out))); (case aF => exact (fun _ _ => trivial)); (case aO => exact (by (with_reducible repeat (first | apply Kd.R_alloc | apply Kd.R_drewN | apply Kd.R_drew)); exact HO_6.out)); (case aS => exact (below_size (by repeat (first | (with_reducible first | exact HB.out | apply below_alloc | apply pw_below_drewN | apply below_drew1 | refine below_set ?_ GE320101.out) | exact HB.out)))); (case aL => have := LMc32.out; omega); intro v320114 w39 ho hb hg hat; rw [← Ny320113.out] at ho; have n0_ := Aside0.mk (Kd.R_over' (by (with_reducible repeat (first | apply Kd.R_alloc | apply Kd.R_drewN | apply Kd.R_drew)); exact HO_5.out) (Kd.R_typed (by (with_reducible repeat (first | apply Kd.R_alloc | apply Kd.R_drewN | apply Kd.R_drew)); exact HO_6.out)) (by decide) hg); have n1_ := Aside0.mk (blk_grown (g := gb320101) (o := .cells #[.int .i64 a0_0, .int .i64 a0_1, .int .i64 a0_2, .slice A0_3 l0_3.length c0_3] 32 (0, 0)) (by (with_reducible repeat (first | refine blk_drewN ?_ _ | refine blk_drew ?_ | refine blk_alloc ?_ _)); exact BK320101.out) hg (Kd.R_ne HO_6.out BK320101.out (by decide))); have n2_ := Aside0.mk (hb); have n3_ := Aside0.mk (ho); clear HO_5; clear BK320101; clear HB; clear HO_6; have HO_5 := n0_; have BK320101 := n1_; have HB := n2_; have HO320115 := n3_; clear n0_ n1_ n2_ n3_; clear ho hb hg hat))
                 (try simp only [← hl5_2])
                 go_roundg k2
                 case measure => have := HK1.out; have := HK2.out; omega
                 case rel => exact ⟨(y320112), (y320113), (wrap64 (x8_2 + 1)), (by first | rfl | (simp; done) | (simp [*]; done)), H', ⟨by have := HK1.out; have := HK2.out; omega⟩, ⟨by (try simp only [hl5_1]); (try simp only [hl5_2]); (with_reducible repeat (first | apply Kd.R_alloc | apply Kd.R_drewN | apply Kd.R_drew)); exact HO_5.out⟩, ⟨by (try simp only [hl5_1]); (try simp only [hl5_2]); (with_reducible repeat (first | apply Kd.R_alloc | apply Kd.R_drewN | apply Kd.R_drew)); exact HO320115.out⟩, ⟨by (try simp only [hl5_1]); (try simp only [hl5_2]); (with_reducible repeat (first | refine blk_drewN ?_ _ | refine blk_drew ?_ | refine blk_alloc ?_ _)); exact BK320101.out⟩, ⟨by repeat (first | (with_reducible first | exact HB.out | apply below_alloc | apply pw_below_drewN | apply below_drew1 | refine below_set ?_ GE320101.out) | exact HB.out)⟩⟩
                ·rw [if_neg c32] at H
                 exact absurd H (by simp)
              ·rw [if_neg c24] at H
               exact absurd H (by simp)
             ·rw [if_neg c23] at H
              exact absurd H (by simp)
            ·rw [if_neg c21] at H
             exact absurd H (by simp)
           ·rw [if_neg c20] at H
            exact absurd H (by simp)
          ·rw [if_neg c19] at H
           have c19b0 : decide (x8_2 ≤ a0_1) = false := decide_eq_false c19
           clear c19
           have H' := Aside0.mk H
           clear H
           have hcz40_0 : wr.cell? ⟨gb320101, 0, none⟩ = some (.int .i64 a0_0) := (blk_cell BK320101.out 0).trans rfl
           have hcz40_1 : wr.cell? ⟨gb320101, 1, none⟩ = some (.int .i64 a0_1) := (blk_cell BK320101.out 1).trans rfl
           have hcz40_2 : wr.cell? ⟨gb320101, 2, none⟩ = some (.int .i64 a0_2) := (blk_cell BK320101.out 2).trans rfl
           have hcz40_3 : wr.cell? ⟨gb320101, 3, none⟩ = some (.slice A0_3 l0_3.length c0_3) := (blk_cell BK320101.out 3).trans rfl
           have hfz40_0 := blk_frozen BK320101.out 0
           have hfz40_1 := blk_frozen BK320101.out 1
           have hfz40_2 := blk_frozen BK320101.out 2
           have hfz40_3 := blk_frozen BK320101.out 3
           go_wp2
           (try simp only [← hl5_1, ← hl5_2])
           go_roundg k2
           case measure => have := HK1.out; have := HK2.out; omega
           case rel => exact ⟨(x5_2), (x6_2), (wrap64 (x7_1 + 1)), (by first | rfl | (simp; done) | (simp [*]; done)), H', ⟨by have := HK1.out; have := HK2.out; omega⟩, ⟨by (try simp only [hl5_1]); (try simp only [hl5_2]); (with_reducible repeat (first | apply Kd.R_alloc | apply Kd.R_drewN | apply Kd.R_drew)); exact HO_5.out⟩, ⟨by (try simp only [hl5_1]); (try simp only [hl5_2]); (with_reducible repeat (first | apply Kd.R_alloc | apply Kd.R_drewN | apply Kd.R_drew)); exact HO_6.out⟩, ⟨by (try simp only [hl5_1]); (try simp only [hl5_2]); (with_reducible repeat (first | refine blk_drewN ?_ _ | refine blk_drew ?_ | refine blk_alloc ?_ _)); exact BK320101.out⟩, ⟨by repeat (first | (with_reducible first | exact HB.out | apply below_alloc | apply pw_below_drewN | apply below_drew1 | refine below_set ?_ GE320101.out) | exact HB.out)⟩⟩
       ·rw [if_neg c17] at H
        have c17b0 : decide (x7_1 < (x6_1.length : Int)) = false := decide_eq_false c17
        (try (have c17b0z := c17b0; rw [hl5_1] at c17b0z))
        clear c17
        obtain rfl := Option.some.inj H
        obtain ⟨Ao41, co41, eo41⟩ := Kd.R_slice HO_6.out
        subst eo41
        go_wp2
        go_ret
        exact ⟨_, by first | rfl | (simp [errW_none, errW_some] <;> rfl) | (simp only [← hji3]; first | rfl | (simp [errW_none, errW_some] <;> rfl)) | (simp [*, errW_none, errW_some] <;> rfl), by (with_reducible repeat (first | apply Kd.R_alloc | apply Kd.R_drewN | apply Kd.R_drew)); exact HO_5.out, by repeat (first | (with_reducible first | exact HB.out | apply below_alloc | apply pw_below_drewN | apply below_drew1 | refine below_set ?_ GE320101.out) | exact HB.out)⟩
    ·rw [if_neg c7] at H
     exact absurd H (by simp)
   ·rw [if_neg c6] at H
    exact absurd H (by simp)
  ·rw [if_neg c5] at H
   exact absurd H (by simp)
 ·rw [if_neg c4] at H
  exact absurd H (by simp)

end Go.Proofs.Ytkobjjadojpjfaa.Pr
