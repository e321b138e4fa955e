-- A text of the machine side, written by wip/gen.py of this repo out of the translation. Not trusted: Lean checks it.
import Derived.Test.YtkobjjadojpjfaaF0
import Derived.Test.YtkobjjadojpjfaaFGB
namespace Go.Proofs.Ytkobjjadojpjfaa.Pr
open Go.RowKit Go.Proofs.YtkobjjadojpjfaaW.PrintWords Go.Proofs.YtkobjjadojpjfaaW.PrintLast Go.Proofs.YtkobjjadojpjfaaW.PrintMore
attribute [local go_sem] max2_int min2_int max_two min_two max_three min_three max_four min_four   -- for this text's walks alone
set_option linter.unusedVariables false
set_option linter.unusedSimpArgs false

/-! ### spec_chPlaces: function 157 -/
mutual
def spec_chPlaces.l0 : Nat → Int → List Int → Int → Int → Int → List (S27) → Option (List Int)
  | 0, _, _, _, _, _, _ => none
  | k + 1, x2, x7, x314102000, x314102001, x314102002, x314102003 => if x2 > 0 then (if 0 ≤ (wrap64 (x314102000 + 1)) then (if (wrap64 (x314102000 + 1) : Int).toNat ≤ 35184372088832 then (spec_chPlaces.l1 k x2 (List.replicate (wrap64 (x314102000 + 1) : Int).toNat 0) x7 (x7.length : Int) 0 x314102000 x314102001 x314102002 x314102003) else (none)) else (none)) else (some x7)
def spec_chPlaces.l1 : Nat → Int → List Int → List Int → Int → Int → Int → Int → Int → List (S27) → Option (List Int)
  | 0, _, _, _, _, _, _, _, _, _ => none
  | k + 1, x2, x8, x27, x28, x29, x314102000, x314102001, x314102002, x314102003 => if x29 < x28 then (if 0 ≤ x29 then (if x29 < (x27.length : Int) then (if (rd x27 x29) > 0 then (spec_chPlaces.l2 k x2 x8 x29 (rd x27 x29) 1 x27 x28 x29 x314102000 x314102001 x314102002 x314102003) else (spec_chPlaces.l1 k x2 x8 x27 x28 (wrap64 (x29 + 1)) x314102000 x314102001 x314102002 x314102003)) else (none)) else (none)) else (spec_chPlaces.l0 k (wrap64 (x2 - 1)) x8 x314102000 x314102001 x314102002 x314102003)
def spec_chPlaces.l2 : Nat → Int → List Int → Int → Int → Int → List Int → Int → Int → Int → Int → Int → List (S27) → Option (List Int)
  | 0, _, _, _, _, _, _, _, _, _, _, _, _ => none
  | k + 1, x2, x8, x9, x10, x11, x27, x28, x29, x314102000, x314102001, x314102002, x314102003 => if x11 ≤ x314102001 then ((spec_sqThrow.f k x314102000 x314102001 x314102002 x314102003 x9 x11).bind fun t314110 => (if 0 ≤ t314110 then (if t314110 < (x8.length : Int) then (spec_chPlaces.l2 k x2 (x8.set (t314110 : Int).toNat (wrap64 ((rd x8 t314110) + x10))) x9 x10 (wrap64 (x11 + 1)) x27 x28 x29 x314102000 x314102001 x314102002 x314102003) else (none)) else (none))) else (spec_chPlaces.l1 k x2 x8 x27 x28 (wrap64 (x29 + 1)) x314102000 x314102001 x314102002 x314102003)
end
def spec_chPlaces.f (k : Nat) (a0_0 : Int) (a0_1 : Int) (a0_2 : Int) (l0_3 : List (S27)) (a1 : Int) (a2 : Int) : Option (List Int) := if 0 ≤ (wrap64 (a0_0 + 1)) then (if (wrap64 (a0_0 + 1) : Int).toNat ≤ 35184372088832 then ((some (List.replicate (wrap64 (a0_0 + 1) : Int).toNat 0 : List Int)).bind fun y314102 => (if 0 ≤ a1 then (if a1 < (y314102.length : Int) then (spec_chPlaces.l0 k a2 (y314102.set (a1 : Int).toNat 1) a0_0 a0_1 a0_2 l0_3) else (none)) else (none))) else (none)) else (none)
theorem spec_chPlaces.mono_l : ∀ k, (∀ y0 y1 y2 y3 y4 y5, LeO (spec_chPlaces.l0 k y0 y1 y2 y3 y4 y5) (spec_chPlaces.l0 (k + 1) y0 y1 y2 y3 y4 y5)) ∧ (∀ y0 y1 y2 y3 y4 y5 y6 y7 y8, LeO (spec_chPlaces.l1 k y0 y1 y2 y3 y4 y5 y6 y7 y8) (spec_chPlaces.l1 (k + 1) y0 y1 y2 y3 y4 y5 y6 y7 y8)) ∧ (∀ y0 y1 y2 y3 y4 y5 y6 y7 y8 y9 y10 y11, LeO (spec_chPlaces.l2 k y0 y1 y2 y3 y4 y5 y6 y7 y8 y9 y10 y11) (spec_chPlaces.l2 (k + 1) y0 y1 y2 y3 y4 y5 y6 y7 y8 y9 y10 y11))
  | 0 => ⟨fun _ _ _ _ _ _ r h => by simp [spec_chPlaces.l0] at h, fun _ _ _ _ _ _ _ _ _ r h => by simp [spec_chPlaces.l1] at h, fun _ _ _ _ _ _ _ _ _ _ _ _ r h => by simp [spec_chPlaces.l2] at h⟩
  | k + 1 => by
    obtain ⟨ih0, ih1, ih2⟩ := spec_chPlaces.mono_l k
    refine ⟨?_, ?_, ?_⟩
    · intro y0 y1 y2 y3 y4 y5
      unfold spec_chPlaces.l0
      repeat' first
      | (with_reducible exact ih0 _ _ _ _ _ _)
      | (with_reducible exact ih1 _ _ _ _ _ _ _ _ _)
      | (with_reducible exact ih2 _ _ _ _ _ _ _ _ _ _ _ _)
      | (with_reducible exact spec_sqThrow.mono _ _ _ _ _ _ _)
      | (with_reducible exact LeO.refl _)
      | (with_reducible exact LeO.none _)
      | (with_reducible refine LeO.ite ?_ ?_)
      | (with_reducible refine LeO.bind ?_ (fun _ => ?_))
      | exact ih0 _ _ _ _ _ _
      | exact ih1 _ _ _ _ _ _ _ _ _
      | exact ih2 _ _ _ _ _ _ _ _ _ _ _ _
      | exact spec_sqThrow.mono _ _ _ _ _ _ _
      | exact LeO.none _
      | refine LeO.ite ?_ ?_
      | refine LeO.bind ?_ (fun _ => ?_)
    · intro y0 y1 y2 y3 y4 y5 y6 y7 y8
      unfold spec_chPlaces.l1
      repeat' first
      | (with_reducible exact ih0 _ _ _ _ _ _)
      | (with_reducible exact ih1 _ _ _ _ _ _ _ _ _)
      | (with_reducible exact ih2 _ _ _ _ _ _ _ _ _ _ _ _)
      | (with_reducible exact spec_sqThrow.mono _ _ _ _ _ _ _)
      | (with_reducible exact LeO.refl _)
      | (with_reducible exact LeO.none _)
      | (with_reducible refine LeO.ite ?_ ?_)
      | (with_reducible refine LeO.bind ?_ (fun _ => ?_))
      | exact ih0 _ _ _ _ _ _
      | exact ih1 _ _ _ _ _ _ _ _ _
      | exact ih2 _ _ _ _ _ _ _ _ _ _ _ _
      | exact spec_sqThrow.mono _ _ _ _ _ _ _
      | exact LeO.none _
      | refine LeO.ite ?_ ?_
      | refine LeO.bind ?_ (fun _ => ?_)
    · intro y0 y1 y2 y3 y4 y5 y6 y7 y8 y9 y10 y11
      unfold spec_chPlaces.l2
      repeat' first
      | (with_reducible exact ih0 _ _ _ _ _ _)
      | (with_reducible exact ih1 _ _ _ _ _ _ _ _ _)
      | (with_reducible exact ih2 _ _ _ _ _ _ _ _ _ _ _ _)
      | (with_reducible exact spec_sqThrow.mono _ _ _ _ _ _ _)
      | (with_reducible exact LeO.refl _)
      | (with_reducible exact LeO.none _)
      | (with_reducible refine LeO.ite ?_ ?_)
      | (with_reducible refine LeO.bind ?_ (fun _ => ?_))
      | exact ih0 _ _ _ _ _ _
      | exact ih1 _ _ _ _ _ _ _ _ _
      | exact ih2 _ _ _ _ _ _ _ _ _ _ _ _
      | exact spec_sqThrow.mono _ _ _ _ _ _ _
      | exact LeO.none _
      | refine LeO.ite ?_ ?_
      | refine LeO.bind ?_ (fun _ => ?_)
theorem spec_chPlaces.mono : ∀ a0 a1 a2 a3 a4 a5 k, LeO (spec_chPlaces.f k a0 a1 a2 a3 a4 a5) (spec_chPlaces.f (k + 1) a0 a1 a2 a3 a4 a5) := by
  intro a0 a1 a2 a3 a4 a5 k
  obtain ⟨ih0, ih1, ih2⟩ := spec_chPlaces.mono_l k
  unfold spec_chPlaces.f
  repeat' first
      | (with_reducible exact ih0 _ _ _ _ _ _)
      | (with_reducible exact ih1 _ _ _ _ _ _ _ _ _)
      | (with_reducible exact ih2 _ _ _ _ _ _ _ _ _ _ _ _)
      | (with_reducible exact spec_sqThrow.mono _ _ _ _ _ _ _)
      | (with_reducible exact LeO.refl _)
      | (with_reducible exact LeO.none _)
      | (with_reducible refine LeO.ite ?_ ?_)
      | (with_reducible refine LeO.bind ?_ (fun _ => ?_))
      | exact ih0 _ _ _ _ _ _
      | exact ih1 _ _ _ _ _ _ _ _ _
      | exact ih2 _ _ _ _ _ _ _ _ _ _ _ _
      | exact spec_sqThrow.mono _ _ _ _ _ _ _
      | exact LeO.none _
      | refine LeO.ite ?_ ?_
      | refine LeO.bind ?_ (fun _ => ?_)
set_option maxHeartbeats 8000000 in
set_option maxRecDepth 100000 in
theorem spec_chPlaces.calls (k : Nat) (a0_0 : Int) (a0_1 : Int) (a0_2 : Int) (A0_3 : Option Addr) (c0_3 : Nat) (l0_3 : List (S27)) (a1 : Int) (a2 : Int) (r : List Int) (w : World) (hr0_3 : Kd.C k27 w A0_3 l0_3.length l0_3) (hc0_3 : l0_3.length ≤ c0_3) (h : spec_chPlaces.f k a0_0 a0_1 a0_2 l0_3 a1 a2 = some r) :
    Calls Try.prog 157 #[.agg #[.int .i64 a0_0, .int .i64 a0_1, .int .i64 a0_2, .slice A0_3 l0_3.length c0_3], .int .i64 a1, .int .i64 a2] w fun e w' => ∃ v0_ : Value, e = .returned (v0_) ∧ Kd.R (Kd.int .i64) 3 w' w.heap.size (fun _ => True) v0_ r ∧ Below w.heap.size w w' := by
  have hu32 := Try.underlying32
  have HR0_3 := Aside0.mk hr0_3
  have HC0_3 := Aside0.mk hc0_3
  clear hr0_3 hc0_3
  have HB := Aside0.mk (Below.refl w.heap.size w)
  have H : (if 0 ≤ (wrap64 (a0_0 + 1)) then (if (wrap64 (a0_0 + 1) : Int).toNat ≤ 35184372088832 then ((some (List.replicate (wrap64 (a0_0 + 1) : Int).toNat 0 : List Int)).bind fun y314102 => (if 0 ≤ a1 then (if a1 < (y314102.length : Int) then (spec_chPlaces.l0 k a2 (y314102.set (a1 : Int).toNat 1) a0_0 a0_1 a0_2 l0_3) else (none)) else (none))) else (none)) else (none)) = some r := h
  clear h
  try clear hji2w
  try clear hji2
  try clear hji19w
  try clear hji19
  try clear hji2w
  try clear hji2
  try clear hji19w
  try clear hji19
  obtain ⟨ji4, hji4⟩ : ∃ j_ : Int, (wrap64 (a0_0 + 1)) = j_ := ⟨_, rfl⟩
  replace H : (if 0 ≤ (ji4) then (if (ji4 : Int).toNat ≤ 35184372088832 then ((some (List.replicate (ji4 : Int).toNat 0 : List Int)).bind fun y314102 => (if 0 ≤ a1 then (if a1 < (y314102.length : Int) then (spec_chPlaces.l0 k a2 (y314102.set (a1 : Int).toNat 1) a0_0 a0_1 a0_2 l0_3) else (none)) else (none))) else (none)) else (none)) = some r := by first | (rw [hji4] at H; exact H) | (simp only [hji4] at H ⊢; exact H)
  have hji4w : (IntKind.i64.wrap (a0_0 + 1)) = ji4 := (i64_w _).trans hji4
  by_cases c5 : 0 ≤ (ji4)
  · rw [if_pos c5] at H
    have c5b0 := eq_true c5
    have c5b1 : decide (0 ≤ (ji4)) = true := decide_eq_true c5
    clear c5
    by_cases c6 : (ji4 : Int).toNat ≤ 35184372088832
    · rw [if_pos c6] at H
      have c6b0 := eq_true c6
      have c6b1 : decide ((ji4 : Int).toNat ≤ 35184372088832) = true := decide_eq_true c6
      clear c6
      obtain ⟨y314102, hy314102⟩ : ∃ y_ : List Int, y_ = (List.replicate (ji4 : Int).toNat 0) := ⟨_, rfl⟩
      replace H : (if 0 ≤ a1 then (if a1 < (y314102.length : Int) then (spec_chPlaces.l0 k a2 (y314102.set (a1 : Int).toNat 1) a0_0 a0_1 a0_2 l0_3) else (none)) else (none)) = some r := by first | (rw [hy314102]; with_reducible exact H) | (have H2_ := (Option.bind_some _ _).symm.trans H; rw [hy314102]; with_reducible exact H2_) | (have H2_ := (Option.bind_some _ _).symm.trans H; with_reducible exact H2_) | with_reducible exact H | (rw [hy314102]; exact H) | exact H
      have Ny314102 := Aside0.mk hy314102
      clear hy314102
      by_cases c7 : 0 ≤ a1
      · rw [if_pos c7] at H
        have c7b0 : decide (0 ≤ a1) = true := decide_eq_true c7
        clear c7
        by_cases c8 : a1 < (y314102.length : Int)
        · rw [if_pos c8] at H
          have c8b0 : decide (a1 < (y314102.length : Int)) = true := decide_eq_true c8
          clear c8
          obtain ⟨y314105, hy314105⟩ : ∃ y_ : List Int, y_ = (y314102.set (a1 : Int).toNat 1) := ⟨_, rfl⟩
          replace H : (spec_chPlaces.l0 k a2 y314105 a0_0 a0_1 a0_2 l0_3) = some r := by first | (rw [hy314105]; with_reducible exact H) | (have H2_ := (Option.bind_some _ _).symm.trans H; rw [hy314105]; with_reducible exact H2_) | (have H2_ := (Option.bind_some _ _).symm.trans H; with_reducible exact H2_) | with_reducible exact H | (rw [hy314105]; exact H) | exact H
          have Ny314105 := Aside0.mk hy314105
          clear hy314105
          have H' := Aside0.mk H
          clear H
          go_enter Try.func157, Try.ntmps157
          go_wp2_with (first | ((with_reducible refine gate_dst (N := 3) rfl ?_); refine box_event ?hg (N := 3) ?hd (cs := #[.int .i64 a0_0, .int .i64 a0_1, .int .i64 a0_2, .slice A0_3 l0_3.length c0_3]) (t := 32) ?hr ?_; (case hd => rfl); (case hg => rfl); (case hr => first | (go_simp; done) | (go_simp; rfl)); intro gb314101 hg w10 hbox hb; have n0_ := Aside0.mk (below_step (by repeat (first | (with_reducible first | exact HB.out | apply below_alloc | apply pw_below_drewN | apply below_drew1) | exact HB.out)) hb); have n1_ := Aside0.mk (hbox); have n2_ := Aside0.mk ((by rw [hg]; exact (below_size (by repeat (first | (with_reducible first | exact HB.out | apply below_alloc | apply pw_below_drewN | apply below_drew1) | exact HB.out))) : w.heap.size ≤ gb314101)); have n3_ := Aside0.mk ((by rw [hg]; exact (below_size (by repeat (first | (with_reducible first | exact HB.out | apply below_alloc | apply pw_below_drewN | apply below_drew1) | exact HB.out))) : w.heap.size ≤ gb314101)); clear HB; have HB := n0_; have BK314101 := n1_; have GW314101 := n2_; have GE314101 := n3_; clear n0_ n1_ n2_ n3_; clear hb hbox hg; have hcz11_0 : w10.cell? ⟨gb314101, 0, none⟩ = some (.int .i64 a0_0) := (blk_cell BK314101.out 0).trans rfl; have hcz11_1 : w10.cell? ⟨gb314101, 1, none⟩ = some (.int .i64 a0_1) := (blk_cell BK314101.out 1).trans rfl; have hcz11_2 : w10.cell? ⟨gb314101, 2, none⟩ = some (.int .i64 a0_2) := (blk_cell BK314101.out 2).trans rfl; have hcz11_3 : w10.cell? ⟨gb314101, 3, none⟩ = some (.slice A0_3 l0_3.length c0_3) := (blk_cell BK314101.out 3).trans rfl; have hfz11_0 := blk_frozen BK314101.out 0; have hfz11_1 := blk_frozen BK314101.out 1; have hfz11_2 := blk_frozen BK314101.out 2; have hfz11_3 := blk_frozen BK314101.out 3) | ((with_reducible refine gate_dst (N := 15) rfl ?_); refine Kd.R_make (Kd.int .i64) _ 3 rfl (N := 15) rfl 58 _ _ rfl ji4 rfl rfl Try.underlying58 (.int .i64 0) 8 info3 rfl (by decide) (by omega) 0 (ok := fun _ => True) (okp := fun _ => True) rfl (fun _ hk => hk) trivial (of_decide_eq_true (by first | (with_reducible assumption) | assumption)) (Nat.le_trans (Nat.mul_le_mul_right _ (of_decide_eq_true (by first | (with_reducible assumption) | assumption) : ji4.toNat ≤ 35184372088832)) (by omega)) (Below.refl _ _) (Nat.le_refl _) ?_; intro v314103 w12 ho13 hb hg_ hnew_; clear hg_ hnew_; (first | rw [← Ny314102.out] at ho13 | (simp only [Int.reduceToNat] at ho13; rw [← Ny314102.out] at ho13)); have n0_ := Aside0.mk (Kd.R_lower ho13 (below_size (by repeat (first | (with_reducible first | exact HB.out | apply below_alloc | apply pw_below_drewN | apply below_drew1 | refine below_set ?_ GE314101.out) | exact HB.out)))); have n1_ := Aside0.mk (blk_below (g := gb314101) (o := .cells #[.int .i64 a0_0, .int .i64 a0_1, .int .i64 a0_2, .slice A0_3 l0_3.length c0_3] 32 (0, 0)) (by (with_reducible repeat (first | refine blk_drewN ?_ _ | refine blk_drew ?_ | refine blk_alloc ?_ _)); exact BK314101.out) hb); have n2_ := Aside0.mk (below_step (by repeat (first | (with_reducible first | exact HB.out | apply below_alloc | apply pw_below_drewN | apply below_drew1 | refine below_set ?_ GE314101.out) | exact HB.out)) hb); clear BK314101; clear HB; have HO314104 := n0_; have BK314101 := n1_; have HB := n2_; clear n0_ n1_ n2_; clear hb ho13; have p9 : 0 ≤ (a1 : Int) := of_decide_eq_true (by first | (with_reducible assumption) | assumption); have q9 : (a1 : Int) < ((y314102.length : Int) : Int) := of_decide_eq_true (by first | (with_reducible assumption) | assumption); obtain ⟨go9, co9, eo9, gb9, gl9, cl9, HG9⟩ := Kd.R_form HO314104.out (by omega); (first | cases eo9 | (injection eo9 with ea_ en_ ec_; (first | subst ea_ | (injection ea_ with ea_; subst ea_)); subst ec_; clear en_)); have GB9 := Aside0.mk gb9; have GG9 := Aside0.mk HG9; clear gb9 gl9 HG9; obtain ⟨hx9_0, hf9_0⟩ := Kd.R_celln 0 HO314104.out (a1 : Int) p9 q9; replace p9 := eq_true p9; replace q9 := eq_true q9; obtain ⟨hy14_, hz14_⟩ := Kd.R_celln 0 HO314104.out (a1 : Int) (of_decide_eq_true (by first | (with_reducible assumption) | assumption)) (of_decide_eq_true (by first | (with_reducible assumption) | assumption)); have HP14 := Kd.R_putg HO314104.out (a1 : Int) 1) | ((with_reducible refine gate_store (t := 3) (p := 18) rfl ?_); refine store_event (t := 3) (p := 18) (v := ?vo_w15) (w1 := (w12.setCell ⟨go9, (a1 : Int).toNat, none⟩ (.int .i64 1))) ?hg ?ho ?hn ?hr ?_; (case ho => rfl); (case hg => rfl); (case hn => rfl); (case hr => first | (go_simp; done) | (go_simp; rfl)); intro w15 hw; have hg : w12.grownBy w15 (some go9) := (by rw [hw]; exact HP14.2); have hp_ : Kd.R (Kd.int .i64) 3 w15 w.heap.size (fun _ => True) (.slice (some ⟨go9, 0, none⟩) y314102.length co9) y314105 := (by rw [hw, Ny314105.out]; exact HP14.1); clear HP14; have n0_ := Aside0.mk (blk_grown (g := gb314101) (o := .cells #[.int .i64 a0_0, .int .i64 a0_1, .int .i64 a0_2, .slice A0_3 l0_3.length c0_3] 32 (0, 0)) (by (with_reducible repeat (first | refine blk_drewN ?_ _ | refine blk_drew ?_ | refine blk_alloc ?_ _)); exact BK314101.out) hg (Kd.R_ne HO314104.out BK314101.out (by decide))); have n1_ := Aside0.mk (hp_); have n2_ := Aside0.mk ((by rw [hw]; exact below_set (HB.out) GB9.out : Below w.heap.size w w15)); clear BK314101; clear HO314104; clear HB; have BK314101 := n0_; have HO314104 := n1_; have HB := n2_; clear n0_ n1_ n2_; clear hg hw hp_))
          go_loopg [2, 7] k (fun kq v2 v7 w' => ∃ (x2_1 : Int) (x7_1 : List Int), v2 = .int .i64 x2_1 ∧ Aside0 (spec_chPlaces.l0 kq x2_1 x7_1 a0_0 a0_1 a0_2 l0_3 = some r) ∧ Aside0 (kq ≤ k) ∧ Aside0 (Kd.R (Kd.int .i64) 3 w' w.heap.size (fun _ => True) v7 x7_1) ∧ Aside0 (w'.heap[gb314101]? = some (.cells #[.int .i64 a0_0, .int .i64 a0_1, .int .i64 a0_2, (.slice A0_3 l0_3.length c0_3)] 32 (0, 0))) ∧ Aside0 (Below w.heap.size w w'))
          case atStart => exact ⟨(a2), (y314105), (by first | rfl | (simp; done) | (simp [*]; done)), H', ⟨Nat.le_refl _⟩, ⟨by (with_reducible repeat (first | apply Kd.R_alloc | apply Kd.R_drewN | apply Kd.R_drew)); exact HO314104.out⟩, ⟨by (with_reducible repeat (first | refine blk_drewN ?_ _ | refine blk_drew ?_ | refine blk_alloc ?_ _)); exact BK314101.out⟩, ⟨by repeat (first | (with_reducible first | exact HB.out | apply below_alloc | apply pw_below_drewN | apply below_drew1 | refine below_set ?_ GE314101.out) | exact HB.out)⟩⟩
          case round =>
            clear H'
            try clear c1
            try clear p2
            try clear c5
            try clear c5b0
            try clear c5b1
            try clear c6
            try clear c6b0
            try clear c6b1
            try clear p6
            try clear c7
            try clear c7b0
            try clear c8
            try clear c8b0
            try clear p9
            try clear q9
            try clear hx9
            try clear hf9
            try clear c15
            try clear hcz11_0
            try clear hcz11_1
            try clear hcz11_2
            try clear hcz11_3
            try clear hfz11_0
            try clear hfz11_1
            try clear hfz11_2
            try clear hfz11_3
            try clear hx9_0
            try clear p9
            try clear q9
            obtain ⟨x2_1, x7_1, rfl, HA, HK1, HO_7, BK314101, HB⟩ := hrel
            cases gk with
            | zero => exact absurd HA.out (by simp [spec_chPlaces.l0])
            | succ k1 =>
              have H := HA.out
              clear HA
              simp only [spec_chPlaces.l0] at H
              by_cases c16 : x2_1 > 0
              · rw [if_pos c16] at H
                have c16b0 : decide (0 < x2_1) = true := decide_eq_true c16
                clear c16
                try clear hji2w
                try clear hji2
                try clear hji19w
                try clear hji19
                try clear hji2w
                try clear hji2
                try clear hji19w
                try clear hji19
                try clear hji4w
                try clear hji4
                obtain ⟨ji17, hji17⟩ : ∃ j_ : Int, (wrap64 (a0_0 + 1)) = j_ := ⟨_, rfl⟩
                replace H : (if 0 ≤ (ji17) then (if (ji17 : Int).toNat ≤ 35184372088832 then (spec_chPlaces.l1 k1 x2_1 (List.replicate (ji17 : Int).toNat 0) x7_1 (x7_1.length : Int) 0 a0_0 a0_1 a0_2 l0_3) else (none)) else (none)) = some r := by first | (rw [hji17] at H; exact H) | (simp only [hji17] at H ⊢; exact H)
                have hji17w : (IntKind.i64.wrap (a0_0 + 1)) = ji17 := (i64_w _).trans hji17
                by_cases c18 : 0 ≤ (ji17)
                · rw [if_pos c18] at H
                  have c18b0 := eq_true c18
                  have c18b1 : decide (0 ≤ (ji17)) = true := decide_eq_true c18
                  clear c18
                  by_cases c19 : (ji17 : Int).toNat ≤ 35184372088832
                  · rw [if_pos c19] at H
                    have c19b0 := eq_true c19
                    have c19b1 : decide ((ji17 : Int).toNat ≤ 35184372088832) = true := decide_eq_true c19
                    clear c19
                    obtain ⟨y314106, hy314106⟩ : ∃ y_ : List Int, y_ = (List.replicate (ji17 : Int).toNat 0) := ⟨_, rfl⟩
                    replace H : (spec_chPlaces.l1 k1 x2_1 y314106 x7_1 (x7_1.length : Int) 0 a0_0 a0_1 a0_2 l0_3) = some r := by first | (rw [hy314106]; with_reducible exact H) | (have H2_ := (Option.bind_some _ _).symm.trans H; rw [hy314106]; with_reducible exact H2_) | (have H2_ := (Option.bind_some _ _).symm.trans H; with_reducible exact H2_) | with_reducible exact H | (rw [hy314106]; exact H) | exact H
                    have Ny314106 := Aside0.mk hy314106
                    clear hy314106
                    have H' := Aside0.mk H
                    clear H
                    have hcz20_0 : wr.cell? ⟨gb314101, 0, none⟩ = some (.int .i64 a0_0) := (blk_cell BK314101.out 0).trans rfl
                    have hcz20_1 : wr.cell? ⟨gb314101, 1, none⟩ = some (.int .i64 a0_1) := (blk_cell BK314101.out 1).trans rfl
                    have hcz20_2 : wr.cell? ⟨gb314101, 2, none⟩ = some (.int .i64 a0_2) := (blk_cell BK314101.out 2).trans rfl
                    have hcz20_3 : wr.cell? ⟨gb314101, 3, none⟩ = some (.slice A0_3 l0_3.length c0_3) := (blk_cell BK314101.out 3).trans rfl
                    have hfz20_0 := blk_frozen BK314101.out 0
                    have hfz20_1 := blk_frozen BK314101.out 1
                    have hfz20_2 := blk_frozen BK314101.out 2
                    have hfz20_3 := blk_frozen BK314101.out 3
                    go_wp2_with (first | ((with_reducible refine gate_dst (N := 26) rfl ?_); refine Kd.R_make (Kd.int .i64) _ 3 rfl (N := 26) rfl 58 _ _ rfl ji17 rfl rfl Try.underlying58 (.int .i64 0) 8 info3 rfl (by decide) (by omega) 0 (ok := fun _ => True) (okp := fun _ => True) rfl (fun _ hk => hk) trivial (of_decide_eq_true (by first | (with_reducible assumption) | assumption)) (Nat.le_trans (Nat.mul_le_mul_right _ (of_decide_eq_true (by first | (with_reducible assumption) | assumption) : ji17.toNat ≤ 35184372088832)) (by omega)) (Below.refl _ _) (Nat.le_refl _) ?_; intro v314107 w21 ho22 hb hg_ hnew_; clear hg_ hnew_; (first | rw [← Ny314106.out] at ho22 | (simp only [Int.reduceToNat] at ho22; rw [← Ny314106.out] at ho22)); have n0_ := Aside0.mk (Kd.R_elder' (by (with_reducible repeat (first | apply Kd.R_alloc | apply Kd.R_drewN | apply Kd.R_drew)); exact HO_7.out) (Kd.R_base ho22) hb); have n1_ := Aside0.mk (Kd.R_lower (Kd.R_new' ho22 (Kd.R_lt (by (with_reducible repeat (first | apply Kd.R_alloc | apply Kd.R_drewN | apply Kd.R_drew)); exact HO_7.out))) (below_size (by repeat (first | (with_reducible first | exact HB.out | apply below_alloc | apply pw_below_drewN | apply below_drew1 | refine below_set ?_ GE314101.out) | exact HB.out)))); have n2_ := Aside0.mk (blk_below (g := gb314101) (o := .cells #[.int .i64 a0_0, .int .i64 a0_1, .int .i64 a0_2, .slice A0_3 l0_3.length c0_3] 32 (0, 0)) (by (with_reducible repeat (first | refine blk_drewN ?_ _ | refine blk_drew ?_ | refine blk_alloc ?_ _)); exact BK314101.out) hb); have n3_ := Aside0.mk (below_step (by repeat (first | (with_reducible first | exact HB.out | apply below_alloc | apply pw_below_drewN | apply below_drew1 | refine below_set ?_ GE314101.out) | exact HB.out)) hb); clear HO_7; clear BK314101; clear HB; have HO_7 := n0_; have HO314108 := n1_; have BK314101 := n2_; have HB := n3_; clear n0_ n1_ n2_ n3_; clear hb ho22; obtain ⟨Ao23, co23, eo23⟩ := Kd.R_slice HO_7.out; subst eo23))
                    go_loopg [29] k1 (fun kq v29 w' => ∃ (x8_2 : List Int) (x29_2 : Int), v29 = .int .i64 x29_2 ∧ Aside0 (spec_chPlaces.l1 kq x2_1 x8_2 x7_1 (x7_1.length : Int) x29_2 a0_0 a0_1 a0_2 l0_3 = some r) ∧ Aside0 (kq ≤ k1) ∧ Aside0 (Kd.R (Kd.int .i64) 3 w' w.heap.size (fun k_ => some k_ ≠ ((.slice Ao23 x7_1.length co23) : Value).ownBlock) v314107 x8_2) ∧ Aside0 (Kd.R (Kd.int .i64) 3 w' w.heap.size (fun k_ => some k_ ≠ (v314107 : Value).ownBlock) (.slice Ao23 x7_1.length co23) x7_1) ∧ Aside0 (w'.heap[gb314101]? = some (.cells #[.int .i64 a0_0, .int .i64 a0_1, .int .i64 a0_2, (.slice A0_3 l0_3.length c0_3)] 32 (0, 0))) ∧ Aside0 (Below w.heap.size w w'))
                    case atStart => exact ⟨(y314106), (0), (by first | rfl | (simp; done) | (simp [*]; done)), H', ⟨Nat.le_refl _⟩, ⟨by (with_reducible repeat (first | apply Kd.R_alloc | apply Kd.R_drewN | apply Kd.R_drew)); exact Kd.R_mono HO314108.out (fun _ hk => hk.2)⟩, ⟨by (with_reducible repeat (first | apply Kd.R_alloc | apply Kd.R_drewN | apply Kd.R_drew)); exact Kd.R_mono HO_7.out (fun _ hk => hk.2)⟩, ⟨by (with_reducible repeat (first | refine blk_drewN ?_ _ | refine blk_drew ?_ | refine blk_alloc ?_ _)); exact BK314101.out⟩, ⟨by repeat (first | (with_reducible first | exact HB.out | apply below_alloc | apply pw_below_drewN | apply below_drew1 | refine below_set ?_ GE314101.out) | exact HB.out)⟩⟩
                    case round =>
                      clear H'
                      try clear c1
                      try clear p2
                      try clear c5
                      try clear c5b0
                      try clear c5b1
                      try clear c6
                      try clear c6b0
                      try clear c6b1
                      try clear p6
                      try clear c7
                      try clear c7b0
                      try clear c8
                      try clear c8b0
                      try clear p9
                      try clear q9
                      try clear hx9
                      try clear hf9
                      try clear c15
                      try clear c16
                      try clear c16b0
                      try clear c18
                      try clear c18b0
                      try clear c18b1
                      try clear c19
                      try clear c19b0
                      try clear c19b1
                      try clear hcz11_0
                      try clear hcz11_1
                      try clear hcz11_2
                      try clear hcz11_3
                      try clear hcz20_0
                      try clear hcz20_1
                      try clear hcz20_2
                      try clear hcz20_3
                      try clear hfz11_0
                      try clear hfz11_1
                      try clear hfz11_2
                      try clear hfz11_3
                      try clear hfz20_0
                      try clear hfz20_1
                      try clear hfz20_2
                      try clear hfz20_3
                      try clear hx9_0
                      try clear p2
                      try clear p6
                      try clear p9
                      try clear q9
                      obtain ⟨x8_2, x29_2, rfl, HA, HK2, HO_8, HO_27, BK314101, HB⟩ := hrel
                      cases gk with
                      | zero => exact absurd HA.out (by simp [spec_chPlaces.l1])
                      | succ k2 =>
                        have H := HA.out
                        clear HA
                        simp only [spec_chPlaces.l1] at H
                        by_cases c24 : x29_2 < (x7_1.length : Int)
                        · rw [if_pos c24] at H
                          have c24b0 : decide (x29_2 < (x7_1.length : Int)) = true := decide_eq_true c24
                          clear c24
                          by_cases c25 : 0 ≤ x29_2
                          · rw [if_pos c25] at H
                            have c25b0 : decide (0 ≤ x29_2) = true := decide_eq_true c25
                            clear c25
                            by_cases c26 : x29_2 < (x7_1.length : Int)
                            · rw [if_pos c26] at H
                              have c26b0 : decide (x29_2 < (x7_1.length : Int)) = true := decide_eq_true c26
                              clear c26
                              by_cases c27 : (rd x7_1 x29_2) > 0
                              · rw [if_pos c27] at H
                                have c27b0 : decide (0 < (rd x7_1 x29_2)) = true := decide_eq_true c27
                                clear c27
                                have H' := Aside0.mk H
                                clear H
                                have p314109 : 0 ≤ (x29_2 : Int) := of_decide_eq_true (by first | (with_reducible assumption) | assumption)
                                have q314109 : x29_2 < (x7_1.length : Int) := of_decide_eq_true (by first | (with_reducible assumption) | assumption)
                                obtain ⟨ad314109, e314109, hx314109_0⟩ := Kd.at_int (Kd.R_reads' HO_27.out).2.2 x29_2 p314109 q314109
                                cases e314109
                                replace p314109 := eq_true p314109
                                replace q314109 := eq_true q314109
                                go_wp2
                                go_loopg [11] k2 (fun kq v11 w' => ∃ (x8_3 : List Int) (x11_3 : Int), v11 = .int .i64 x11_3 ∧ Aside0 (spec_chPlaces.l2 kq x2_1 x8_3 x29_2 (rd x7_1 x29_2) x11_3 x7_1 (x7_1.length : Int) x29_2 a0_0 a0_1 a0_2 l0_3 = some r) ∧ Aside0 (kq ≤ k2) ∧ Aside0 (Kd.R (Kd.int .i64) 3 w' w.heap.size (fun k_ => some k_ ≠ ((.slice (some ad314109) x7_1.length co23) : Value).ownBlock) v314107 x8_3) ∧ Aside0 (Kd.R (Kd.int .i64) 3 w' w.heap.size (fun k_ => some k_ ≠ (v314107 : Value).ownBlock) (.slice (some ad314109) x7_1.length co23) x7_1) ∧ Aside0 (w'.heap[gb314101]? = some (.cells #[.int .i64 a0_0, .int .i64 a0_1, .int .i64 a0_2, (.slice A0_3 l0_3.length c0_3)] 32 (0, 0))) ∧ Aside0 (Below w.heap.size w w'))
                                case atStart => exact ⟨(x8_2), (1), (by first | rfl | (simp; done) | (simp [*]; done)), H', ⟨Nat.le_refl _⟩, ⟨by (with_reducible repeat (first | apply Kd.R_alloc | apply Kd.R_drewN | apply Kd.R_drew)); exact HO_8.out⟩, ⟨by (with_reducible repeat (first | apply Kd.R_alloc | apply Kd.R_drewN | apply Kd.R_drew)); exact HO_27.out⟩, ⟨by (with_reducible repeat (first | refine blk_drewN ?_ _ | refine blk_drew ?_ | refine blk_alloc ?_ _)); exact BK314101.out⟩, ⟨by repeat (first | (with_reducible first | exact HB.out | apply below_alloc | apply pw_below_drewN | apply below_drew1 | refine below_set ?_ GE314101.out) | exact HB.out)⟩⟩
                                case round =>
                                  clear H'
                                  try clear c1
                                  try clear c2
                                  try clear p2
                                  try clear p3
                                  try clear q3
                                  try clear hx3
                                  try clear c5
                                  try clear c5b0
                                  try clear c5b1
                                  try clear c6
                                  try clear c6b0
                                  try clear c6b1
                                  try clear p6
                                  try clear c7
                                  try clear c7b0
                                  try clear c8
                                  try clear c8b0
                                  try clear p9
                                  try clear q9
                                  try clear hx9
                                  try clear hf9
                                  try clear c15
                                  try clear c16
                                  try clear c16b0
                                  try clear c18
                                  try clear c18b0
                                  try clear c18b1
                                  try clear c19
                                  try clear c19b0
                                  try clear c19b1
                                  try clear c24
                                  try clear c24b0
                                  try clear c25
                                  try clear c25b0
                                  try clear c26
                                  try clear c26b0
                                  try clear c27
                                  try clear c27b0
                                  try clear hcz11_0
                                  try clear hcz11_1
                                  try clear hcz11_2
                                  try clear hcz11_3
                                  try clear hcz20_0
                                  try clear hcz20_1
                                  try clear hcz20_2
                                  try clear hcz20_3
                                  try clear hfz11_0
                                  try clear hfz11_1
                                  try clear hfz11_2
                                  try clear hfz11_3
                                  try clear hfz20_0
                                  try clear hfz20_1
                                  try clear hfz20_2
                                  try clear hfz20_3
                                  try clear hx314109_0
                                  try clear hx9_0
                                  try clear p2
                                  try clear p314109
                                  try clear p6
                                  try clear p9
                                  try clear q314109
                                  try clear q9
                                  obtain ⟨x8_3, x11_3, rfl, HA, HK3, HO_8, HO_27, BK314101, HB⟩ := hrel
                                  cases gk with
                                  | zero => exact absurd HA.out (by simp [spec_chPlaces.l2])
                                  | succ k3 =>
                                    have H := HA.out
                                    clear HA
                                    simp only [spec_chPlaces.l2] at H
                                    by_cases c28 : x11_3 ≤ a0_1
                                    · rw [if_pos c28] at H
                                      have c28b0 : decide (x11_3 ≤ a0_1) = true := decide_eq_true c28
                                      clear c28
                                      replace H := Option.bind_eq_some_iff.mp H
                                      obtain ⟨t314110, A290, H⟩ := H
                                      replace H : (if 0 ≤ t314110 then (if t314110 < (x8_3.length : Int) then (spec_chPlaces.l2 k3 x2_1 (x8_3.set (t314110 : Int).toNat (wrap64 ((rd x8_3 t314110) + (rd x7_1 x29_2)))) x29_2 (rd x7_1 x29_2) (wrap64 (x11_3 + 1)) x7_1 (x7_1.length : Int) x29_2 a0_0 a0_1 a0_2 l0_3) else (none)) else (none)) = some r := H
                                      have A29 := Aside0.mk A290
                                      clear A290
                                      by_cases c30 : 0 ≤ t314110
                                      · rw [if_pos c30] at H
                                        have c30b0 : decide (0 ≤ t314110) = true := decide_eq_true c30
                                        clear c30
                                        by_cases c31 : t314110 < (x8_3.length : Int)
                                        · rw [if_pos c31] at H
                                          have c31b0 : decide (t314110 < (x8_3.length : Int)) = true := decide_eq_true c31
                                          clear c31
                                          obtain ⟨y314112, hy314112⟩ : ∃ y_ : List Int, y_ = (x8_3.set (t314110 : Int).toNat (wrap64 ((rd x8_3 t314110) + (rd x7_1 x29_2)))) := ⟨_, rfl⟩
                                          replace H : (spec_chPlaces.l2 k3 x2_1 y314112 x29_2 (rd x7_1 x29_2) (wrap64 (x11_3 + 1)) x7_1 (x7_1.length : Int) x29_2 a0_0 a0_1 a0_2 l0_3) = some r := by first | (rw [hy314112]; with_reducible exact H) | (have H2_ := (Option.bind_some _ _).symm.trans H; rw [hy314112]; with_reducible exact H2_) | (have H2_ := (Option.bind_some _ _).symm.trans H; with_reducible exact H2_) | with_reducible exact H | (rw [hy314112]; exact H) | exact H
                                          have Ny314112 := Aside0.mk hy314112
                                          clear hy314112
                                          have H' := Aside0.mk H
                                          clear H
                                          have hcz33_0 : wr.cell? ⟨gb314101, 0, none⟩ = some (.int .i64 a0_0) := (blk_cell BK314101.out 0).trans rfl
                                          have hcz33_1 : wr.cell? ⟨gb314101, 1, none⟩ = some (.int .i64 a0_1) := (blk_cell BK314101.out 1).trans rfl
                                          have hcz33_2 : wr.cell? ⟨gb314101, 2, none⟩ = some (.int .i64 a0_2) := (blk_cell BK314101.out 2).trans rfl
                                          have hcz33_3 : wr.cell? ⟨gb314101, 3, none⟩ = some (.slice A0_3 l0_3.length c0_3) := (blk_cell BK314101.out 3).trans rfl
                                          have hfz33_0 := blk_frozen BK314101.out 0
                                          have hfz33_1 := blk_frozen BK314101.out 1
                                          have hfz33_2 := blk_frozen BK314101.out 2
                                          have hfz33_3 := blk_frozen BK314101.out 3
                                          go_wp2_with (first | ((with_reducible refine gate_callee (f := 137) rfl ?_); refine goesL_ (some 46) rfl rfl Try.func137 (by kernel_rfl) rfl #[.agg #[.int .i64 a0_0, .int .i64 a0_1, .int .i64 a0_2, .slice A0_3 l0_3.length c0_3], .int .i64 x29_2, .int .i64 x11_3] rfl (by (try simp only [List.map_toArray, List.map_cons, List.map_nil]); first | done | rfl | (simp only [List.length_drop, List.length_take]; rfl)) ?_; (with_reducible refine (spec_sqThrow.calls k3 a0_0 a0_1 a0_2 _ _ l0_3 x29_2 x11_3 t314110 _ ?side1 ?side2 A29.out).mono ?_); (case side1 => repeat (first | exact (Kd.C_below HR0_3.out HB.out) | (with_reducible refine Kd.C_alloc ?_ _) | (with_reducible refine Kd.C_drewN ?_ _) | (with_reducible refine Kd.C_drew ?_))); (case side2 => exact HC0_3.out); rintro e w34 ⟨rfl, hb⟩; refine ⟨_, rfl, ?_⟩; have n0_ := Aside0.mk (Kd.R_below (by (with_reducible repeat (first | apply Kd.R_alloc | apply Kd.R_drewN | apply Kd.R_drew)); exact HO_8.out) hb); have n1_ := Aside0.mk (Kd.R_below (by (with_reducible repeat (first | apply Kd.R_alloc | apply Kd.R_drewN | apply Kd.R_drew)); exact HO_27.out) hb); have n2_ := Aside0.mk (blk_below (g := gb314101) (o := .cells #[.int .i64 a0_0, .int .i64 a0_1, .int .i64 a0_2, .slice A0_3 l0_3.length c0_3] 32 (0, 0)) (by (with_reducible repeat (first | refine blk_drewN ?_ _ | refine blk_drew ?_ | refine blk_alloc ?_ _)); exact BK314101.out) hb); have n3_ := Aside0.mk (below_step (by repeat (first | (with_reducible first | exact HB.out | apply below_alloc | apply pw_below_drewN | apply below_drew1 | refine below_set ?_ GE314101.out) | exact HB.out)) hb); clear HO_8; clear HO_27; clear BK314101; clear HB; have HO_8 := n0_; have HO_27 := n1_; have BK314101 := n2_; have HB := n3_; clear n0_ n1_ n2_ n3_; (try clear hb); (try clear hb2); (try clear hk); (try clear hi); obtain ⟨Ao35, co35, eo35⟩ := Kd.R_slice HO_8.out; subst eo35; have p314111 : 0 ≤ (t314110 : Int) := of_decide_eq_true (by first | (with_reducible assumption) | assumption); have q314111 : t314110 < (x8_3.length : Int) := of_decide_eq_true (by first | (with_reducible assumption) | assumption); obtain ⟨ad314111, e314111, hx314111_0⟩ := Kd.at_int (Kd.R_reads' HO_8.out).2.2 t314110 p314111 q314111; cases e314111; replace p314111 := eq_true p314111; replace q314111 := eq_true q314111; have p32 : 0 ≤ (t314110 : Int) := of_decide_eq_true (by first | (with_reducible assumption) | assumption); have q32 : (t314110 : Int) < ((x8_3.length : Int) : Int) := of_decide_eq_true (by first | (with_reducible assumption) | assumption); obtain ⟨go32, co32, eo32, gb32, gl32, cl32, HG32⟩ := Kd.R_form HO_8.out (by omega); (first | cases eo32 | (injection eo32 with ea_ en_ ec_; (first | subst ea_ | (injection ea_ with ea_; subst ea_)); subst ec_; clear en_)); have GB32 := Aside0.mk gb32; have GG32 := Aside0.mk HG32; clear gb32 gl32 HG32; (first | simp only [add_plain] at hx314111_0 | skip); obtain ⟨hx32_0, hf32_0⟩ := Kd.R_celln 0 HO_8.out (t314110 : Int) p32 q32; replace p32 := eq_true p32; replace q32 := eq_true q32; obtain ⟨hy36_, hz36_⟩ := Kd.R_celln 0 HO_8.out (t314110 : Int) (of_decide_eq_true (by first | (with_reducible assumption) | assumption)) (of_decide_eq_true (by first | (with_reducible assumption) | assumption)); have HP36 := Kd.R_putg HO_8.out (t314110 : Int) (wrap64 ((rd x8_3 t314110) + (rd x7_1 x29_2)))) | ((with_reducible refine gate_store (t := 3) (p := 51) rfl ?_); refine store_event (t := 3) (p := 51) (v := ?vo_w37) (w1 := (w34.setCell ⟨go32, (t314110 : Int).toNat, none⟩ (.int .i64 (wrap64 ((rd x8_3 t314110) + (rd x7_1 x29_2)))))) ?hg ?ho ?hn ?hr ?_; (case ho => rfl); (case hg => rfl); (case hn => rfl); (case hr => first | (go_simp; done) | (go_simp; rfl)); intro w37 hw; have hg : w34.grownBy w37 (some go32) := (by rw [hw]; exact HP36.2); have hp_ : Kd.R (Kd.int .i64) 3 w37 w.heap.size (fun k_ => some k_ ≠ (.slice (some ad314109) x7_1.length co23 : Value).ownBlock) (.slice (some ⟨go32, 0, none⟩) x8_3.length co35) y314112 := (by rw [hw, Ny314112.out]; exact HP36.1); clear HP36; have n0_ := Aside0.mk (hp_); have n1_ := Aside0.mk (Kd.R_after (v := (.slice (some ⟨go32, 0, none⟩) x8_3.length co35)) (v1 := (.slice (some ⟨go32, 0, none⟩) x8_3.length co35)) (ok := (fun _ => True)) (by (with_reducible repeat (first | apply Kd.R_alloc | apply Kd.R_drewN | apply Kd.R_drew)); exact Kd.R_mono HO_27.out (fun _ hk => ⟨trivial, hk⟩)) hg (.inl rfl)); have n2_ := Aside0.mk (blk_grown (g := gb314101) (o := .cells #[.int .i64 a0_0, .int .i64 a0_1, .int .i64 a0_2, .slice A0_3 l0_3.length c0_3] 32 (0, 0)) (by (with_reducible repeat (first | refine blk_drewN ?_ _ | refine blk_drew ?_ | refine blk_alloc ?_ _)); exact BK314101.out) hg (Kd.R_ne HO_8.out BK314101.out (by decide))); have n3_ := Aside0.mk ((by rw [hw]; exact below_set (HB.out) GB32.out : Below w.heap.size w w37)); clear HO_8; clear HO_27; clear BK314101; clear HB; have HO_8 := n0_; have HO_27 := n1_; have BK314101 := n2_; have HB := n3_; clear n0_ n1_ n2_ n3_; clear hg hw hp_))
                                          go_roundg k3
                                          case measure => have := HK1.out; have := HK2.out; have := HK3.out; omega
                                          case rel => exact ⟨(y314112), (wrap64 (x11_3 + 1)), (by first | rfl | (simp; done) | (simp [*]; done)), H', ⟨by have := HK1.out; have := HK2.out; have := HK3.out; omega⟩, ⟨by (with_reducible repeat (first | apply Kd.R_alloc | apply Kd.R_drewN | apply Kd.R_drew)); exact HO_8.out⟩, ⟨by (with_reducible repeat (first | apply Kd.R_alloc | apply Kd.R_drewN | apply Kd.R_drew)); exact Kd.R_mono HO_27.out (fun _ hk => hk.2)⟩, ⟨by (with_reducible repeat (first | refine blk_drewN ?_ _ | refine blk_drew ?_ | refine blk_alloc ?_ _)); exact BK314101.out⟩, ⟨by repeat (first | (with_reducible first | exact HB.out | apply below_alloc | apply pw_below_drewN | apply below_drew1 | refine below_set ?_ GE314101.out) | exact HB.out)⟩⟩
                                        · rw [if_neg c31] at H
                                          exact absurd H (by simp)
                                      · rw [if_neg c30] at H
                                        exact absurd H (by simp)
                                    · rw [if_neg c28] at H
                                      have c28b0 : decide (x11_3 ≤ a0_1) = false := decide_eq_false c28
                                      clear c28
                                      have H' := Aside0.mk H
                                      clear H
                                      have hcz38_0 : wr.cell? ⟨gb314101, 0, none⟩ = some (.int .i64 a0_0) := (blk_cell BK314101.out 0).trans rfl
                                      have hcz38_1 : wr.cell? ⟨gb314101, 1, none⟩ = some (.int .i64 a0_1) := (blk_cell BK314101.out 1).trans rfl
                                      have hcz38_2 : wr.cell? ⟨gb314101, 2, none⟩ = some (.int .i64 a0_2) := (blk_cell BK314101.out 2).trans rfl
                                      have hcz38_3 : wr.cell? ⟨gb314101, 3, none⟩ = some (.slice A0_3 l0_3.length c0_3) := (blk_cell BK314101.out 3).trans rfl
                                      have hfz38_0 := blk_frozen BK314101.out 0
                                      have hfz38_1 := blk_frozen BK314101.out 1
                                      have hfz38_2 := blk_frozen BK314101.out 2
                                      have hfz38_3 := blk_frozen BK314101.out 3
                                      go_wp2
                                      go_roundg k3
                                      case measure => have := HK1.out; have := HK2.out; have := HK3.out; omega
                                      case rel => exact ⟨(x8_3), (wrap64 (x29_2 + 1)), (by first | rfl | (simp; done) | (simp [*]; done)), H', ⟨by have := HK1.out; have := HK2.out; have := HK3.out; omega⟩, ⟨by (with_reducible repeat (first | apply Kd.R_alloc | apply Kd.R_drewN | apply Kd.R_drew)); exact HO_8.out⟩, ⟨by (with_reducible repeat (first | apply Kd.R_alloc | apply Kd.R_drewN | apply Kd.R_drew)); exact HO_27.out⟩, ⟨by (with_reducible repeat (first | refine blk_drewN ?_ _ | refine blk_drew ?_ | refine blk_alloc ?_ _)); exact BK314101.out⟩, ⟨by repeat (first | (with_reducible first | exact HB.out | apply below_alloc | apply pw_below_drewN | apply below_drew1 | refine below_set ?_ GE314101.out) | exact HB.out)⟩⟩
                              · rw [if_neg c27] at H
                                have c27b0 : decide (0 < (rd x7_1 x29_2)) = false := decide_eq_false c27
                                clear c27
                                have H' := Aside0.mk H
                                clear H
                                have p314109 : 0 ≤ (x29_2 : Int) := of_decide_eq_true (by first | (with_reducible assumption) | assumption)
                                have q314109 : x29_2 < (x7_1.length : Int) := of_decide_eq_true (by first | (with_reducible assumption) | assumption)
                                obtain ⟨ad314109, e314109, hx314109_0⟩ := Kd.at_int (Kd.R_reads' HO_27.out).2.2 x29_2 p314109 q314109
                                cases e314109
                                replace p314109 := eq_true p314109
                                replace q314109 := eq_true q314109
                                go_wp2
                                go_roundg k2
                                case measure => have := HK1.out; have := HK2.out; omega
                                case rel => exact ⟨(x8_2), (wrap64 (x29_2 + 1)), (by first | rfl | (simp; done) | (simp [*]; done)), H', ⟨by have := HK1.out; have := HK2.out; omega⟩, ⟨by (with_reducible repeat (first | apply Kd.R_alloc | apply Kd.R_drewN | apply Kd.R_drew)); exact HO_8.out⟩, ⟨by (with_reducible repeat (first | apply Kd.R_alloc | apply Kd.R_drewN | apply Kd.R_drew)); exact HO_27.out⟩, ⟨by (with_reducible repeat (first | refine blk_drewN ?_ _ | refine blk_drew ?_ | refine blk_alloc ?_ _)); exact BK314101.out⟩, ⟨by repeat (first | (with_reducible first | exact HB.out | apply below_alloc | apply pw_below_drewN | apply below_drew1 | refine below_set ?_ GE314101.out) | exact HB.out)⟩⟩
                            · rw [if_neg c26] at H
                              exact absurd H (by simp)
                          · rw [if_neg c25] at H
                            exact absurd H (by simp)
                        · rw [if_neg c24] at H
                          have c24b0 : decide (x29_2 < (x7_1.length : Int)) = false := decide_eq_false c24
                          clear c24
                          have H' := Aside0.mk H
                          clear H
                          go_wp2
                          go_roundg k2
                          case measure => have := HK1.out; have := HK2.out; omega
                          case rel => exact ⟨(wrap64 (x2_1 - 1)), (x8_2), (by first | rfl | (simp; done) | (simp [*]; done)), H', ⟨by have := HK1.out; have := HK2.out; omega⟩, ⟨by (with_reducible repeat (first | apply Kd.R_alloc | apply Kd.R_drewN | apply Kd.R_drew)); exact Kd.R_mono HO_8.out (fun _ hk => trivial)⟩, ⟨by (with_reducible repeat (first | refine blk_drewN ?_ _ | refine blk_drew ?_ | refine blk_alloc ?_ _)); exact BK314101.out⟩, ⟨by repeat (first | (with_reducible first | exact HB.out | apply below_alloc | apply pw_below_drewN | apply below_drew1 | refine below_set ?_ GE314101.out) | exact HB.out)⟩⟩
                  · rw [if_neg c19] at H
                    exact absurd H (by simp)
                · rw [if_neg c18] at H
                  exact absurd H (by simp)
              · rw [if_neg c16] at H
                have c16b0 : decide (0 < x2_1) = false := decide_eq_false c16
                clear c16
                obtain rfl := Option.some.inj H
                go_wp2
                go_ret
                exact ⟨_, by first | rfl | (simp [errW_none, errW_some] <;> rfl) | (simp only [← hji4]; first | rfl | (simp [errW_none, errW_some] <;> rfl)) | (simp [*, errW_none, errW_some] <;> rfl), by (with_reducible repeat (first | apply Kd.R_alloc | apply Kd.R_drewN | apply Kd.R_drew)); exact HO_7.out, by repeat (first | (with_reducible first | exact HB.out | apply below_alloc | apply pw_below_drewN | apply below_drew1 | refine below_set ?_ GE314101.out) | exact HB.out)⟩
        · rw [if_neg c8] at H
          exact absurd H (by simp)
      · rw [if_neg c7] at H
        exact absurd H (by simp)
    · rw [if_neg c6] at H
      exact absurd H (by simp)
  · rw [if_neg c5] at H
    exact absurd H (by simp)

end Go.Proofs.Ytkobjjadojpjfaa.Pr
