-- A text of the machine side, written by wip/gen.py of this repo out of the translation. Not trusted: Lean checks it.
import Derived.Test.YtogfijfhjdjhpaaF0
import Derived.Test.YtogfijfhjdjhpaaHPick
namespace Go.Proofs.Ytogfijfhjdjhpaa.Pr
open Go.RowKit Go.Proofs.YtogfijfhjdjhpaaW.PrintWords Go.Proofs.YtogfijfhjdjhpaaW.PrintLast Go.Proofs.YtogfijfhjdjhpaaW.PrintMore
attribute [local go_sem] max2_int min2_int max_two min_two max_three min_three max_four min_four   -- for this text's walks alone
set_option linter.unusedVariables false
set_option linter.unusedSimpArgs false

/-! ### impl_twins_moves: function 41 -/
def impl_twins_moves.l0 : Nat → Int → List Int → Int → Int → Int → Int → Int → Int → Int → Option (List Int)
 | 0, _, _, _, _, _, _, _, _, _ => none
 | k + 1, x1, x5, x10, x11, x98, xBE000, xBE001, xBE002, xBE003 => if x11 < 2 then ((pick_.f x10 x98 x11).bind fun tBH => (if (wrap64 (tBH + x1)) ≤ xBE000 then (if x5.length < 17592186044416 then (impl_twins_moves.l0 k x1 (x5 ++ [x11]) x10 (wrap64 (x11 + 1)) x98 xBE000 xBE001 xBE002 xBE003) else (none)) else (impl_twins_moves.l0 k x1 x5 x10 (wrap64 (x11 + 1)) x98 xBE000 xBE001 xBE002 xBE003))) else (some x5)
def impl_twins_moves.f (k : Nat) (a0_0 : Int) (a0_1 : Int) (a0_2 : Int) (a0_3 : Int) (a1 : Int) : Option (List Int) := impl_twins_moves.l0 k a1 (([] : List Int)) a0_2 0 a0_3 a0_0 a0_1 a0_2 a0_3
set_option maxHeartbeats 8000000 in
set_option maxRecDepth 100000 in
theorem impl_twins_moves.calls (k : Nat) (a0_0 : Int) (a0_1 : Int) (a0_2 : Int) (a0_3 : Int) (a1 : Int) (r : List Int) (w : World) (h : impl_twins_moves.f k a0_0 a0_1 a0_2 a0_3 a1 = some r) :
  Calls Try.prog 41 #[.agg #[.int .i64 a0_0, .int .i64 a0_1, .int .i64 a0_2, .int .i64 a0_3], .int .i64 a1] w fun e w' => ∃ v0_ : Value, e = .returned (v0_) ∧ Kd.R (Kd.int .i64) 3 w' w.heap.size (fun _ => True) v0_ r ∧ Below w.heap.size w w' := by
 have hu38 := Try.underlying38
 have hu36 := Try.underlying36
 have HB := Aside0.mk (Below.refl w.heap.size w)
 have H : (impl_twins_moves.l0 k a1 (([] : List Int)) a0_2 0 a0_3 a0_0 a0_1 a0_2 a0_3) = some r := h
 clear h
 obtain ⟨yBE, hyBE⟩ : ∃ y_ : List Int, y_ = (([] : List Int)) := ⟨_, rfl⟩
 replace H : (impl_twins_moves.l0 k a1 yBE a0_2 0 a0_3 a0_0 a0_1 a0_2 a0_3) = some r := by first | (rw [hyBE]; with_reducible exact H) | (have H2_ := (Option.bind_some _ _).symm.trans H; rw [hyBE]; with_reducible exact H2_) | (have H2_ := (Option.bind_some _ _).symm.trans H; with_reducible exact H2_) | with_reducible exact H | (rw [hyBE]; exact H) | exact H
 have NyBE := Aside0.mk hyBE
 clear hyBE
 have H' := Aside0.mk H
 clear H
 go_enter Try.func41, Try.ntmps41
 go_wp2_with (first | ((with_reducible refine gate_dst (N := 2) rfl ?_); refine box_event ?hg (N := 2) ?hd (cs := #[.int .i64 a0_0, .int .i64 a0_1, .int .i64 a0_2, .int .i64 a0_3]) (t := 38) ?hr ?_; (case hd => rfl); (case hg => rfl); (case hr => first | (go_simp; done) | (go_simp; rfl)); intro gbBD hg w3 hbox hb; have n0_ := Aside0.mk (below_step belS hb); have n1_ := Aside0.mk (hbox); have n2_ := Aside0.mk (geS hg : w.heap.size ≤ gbBD); have n3_ := n2_; clear HB; revert n0_ n1_ n2_ n3_; intro HB BKBD GWBD GEBD; clear hb hbox hg) | ((with_reducible refine gate_dst (N := 8) rfl ?_); refine Kd.R_lit (Kd.int .i64) _ 3 ?hg (N := 8) ?hd (xs := ([] : List Int)) (inner := []) (ok := fun _ => True) (okp := fun _ => True) ?hr ?hp (fun _ hk => hk) trivial (Below.refl _ _) (Nat.le_refl _) (by simp) ?_; (case hd => rfl); (case hg => rfl); (case hr => first | (go_simp; done) | (go_simp; rfl)); (case hp => exact (Reps.none _ _)); intro vBF w4 ho5 hb hg_ hnew_; clear hg_ hnew_; (first | rw [← NyBE.out] at ho5 | (simp only [Int.reduceToNat] at ho5; rw [← NyBE.out] at ho5)); have n0_ := Aside0.mk (Kd.R_lower ho5 (below_size belS)); have n1_ := Aside0.mk (blk_below (blk_up BKBD.out) hb); have n2_ := Aside0.mk (below_step belS hb); clear BKBD HB; revert n0_ n1_ n2_; intro HOBG BKBD HB; clear hb ho5; obtain ⟨hcz6_0, hcz6_1, hcz6_2, hcz6_3, hfz6_0, hfz6_1, hfz6_2, hfz6_3⟩ := blk4 BKBD.out))
 go_loopg [5, 11] k (fun kq v5 v11 w' => ∃ (x5_1 : List Int) (x11_1 : Int), v11 = .int .i64 x11_1 ∧ Aside0 (impl_twins_moves.l0 kq a1 x5_1 a0_2 x11_1 a0_3 a0_0 a0_1 a0_2 a0_3 = some r) ∧ Aside0 (kq ≤ k) ∧ Aside0 (Kd.R (Kd.int .i64) 3 w' w.heap.size (fun _ => True) v5 x5_1) ∧ Aside0 (w'.heap[gbBD]? = some (.cells #[.int .i64 a0_0, .int .i64 a0_1, .int .i64 a0_2, .int .i64 a0_3] 38 (0, 0))) ∧ Aside0 (Below w.heap.size w w'))
 case atStart => exact ⟨(yBE), (0), (by first | rfl | (simp; done) | (simp [*]; done)), H', ⟨Nat.le_refl _⟩, ⟨by (with_reducible repeat (first | apply Kd.R_alloc | apply Kd.R_drewN | apply Kd.R_drew)); exact HOBG.out⟩, ⟨by (with_reducible repeat (first | refine blk_drewN ?_ _ | refine blk_drew ?_ | refine blk_alloc ?_ _)); exact BKBD.out⟩, ⟨by exact belS⟩⟩
 case round =>
  clear H'
  try clear p2
  try clear c4
  try clear hcz6_0 hcz6_1 hcz6_2 hcz6_3
  try clear hfz6_0 hfz6_1 hfz6_2 hfz6_3
  obtain ⟨x5_1, x11_1, rfl, HA, HK1, HO_5, BKBD, HB⟩ := hrel
  cases gk with
  | zero => exact absurd HA.out (by simp [impl_twins_moves.l0])
  | succ k1 =>
   have H := HA.out
   clear HA
   simp only [impl_twins_moves.l0] at H
   by_cases c7 : x11_1 < 2
   ·rw [if_pos c7] at H
    have c7b0 : decide (x11_1 < 2) = true := decide_eq_true c7
    clear c7
    replace H := Option.bind_eq_some_iff.mp H
    obtain ⟨tBH, A80, H⟩ := H
    replace H : (if (wrap64 (tBH + a1)) ≤ a0_0 then (if x5_1.length < 17592186044416 then (impl_twins_moves.l0 k1 a1 (x5_1 ++ [x11_1]) a0_2 (wrap64 (x11_1 + 1)) a0_3 a0_0 a0_1 a0_2 a0_3) else (none)) else (impl_twins_moves.l0 k1 a1 x5_1 a0_2 (wrap64 (x11_1 + 1)) a0_3 a0_0 a0_1 a0_2 a0_3)) = some r := H
    have A8 := Aside0.mk A80
    clear A80
    by_cases c9 : (wrap64 (tBH + a1)) ≤ a0_0
    ·rw [if_pos c9] at H
     have c9b0 : decide ((wrap64 (tBH + a1)) ≤ a0_0) = true := decide_eq_true c9
     clear c9
     by_cases c10 : x5_1.length < 17592186044416
     ·rw [if_pos c10] at H
      have LMc10 := Aside0.mk c10
      clear c10
      obtain ⟨yBI, hyBI⟩ : ∃ y_ : List Int, y_ = (x5_1 ++ [x11_1]) := ⟨_, rfl⟩
      replace H : (impl_twins_moves.l0 k1 a1 yBI a0_2 (wrap64 (x11_1 + 1)) a0_3 a0_0 a0_1 a0_2 a0_3) = some r := by first | (rw [hyBI]; with_reducible exact H) | (have H2_ := (Option.bind_some _ _).symm.trans H; rw [hyBI]; with_reducible exact H2_) | (have H2_ := (Option.bind_some _ _).symm.trans H; with_reducible exact H2_) | with_reducible exact H | (rw [hyBI]; exact H) | exact H
      have NyBI := Aside0.mk hyBI
      clear hyBI
      have H' := Aside0.mk H
      clear H
      have hidx_ := pick_idx A8.out
      obtain ⟨hcz11_0, hcz11_1, hcz11_2, hcz11_3, hfz11_0, hfz11_1, hfz11_2, hfz11_3⟩ := blk4 BKBD.out
      go_wp2_with (first | ((with_reducible refine gate_builtin (b := .append) (xs := #[.tmp 21, .tmp 23]) rfl ?_); at_builtin; refine Kd.R_append (Kd.int .i64) (w0 := w) w.heap.size rfl (.tmp 21) (.tmp 23) 25 3 (.int .i64 0) 8 rfl Try.underlying25 info3 rfl (by decide) (by omega) u5 x5_1 x11_1 [.int .i64 x11_1] (fun _ => True) (fun _ => False) rfl rfl ?aP (fun _ hk => hk.elim) ?aF ?aO ?aB ?aS ?aL ?_; (case aP => exact rfl); (case aB => exact belS); (case aF => exact (fun _ _ => trivial)); (case aO => exact (Kd.R_up HO_5.out)); (case aS => exact (below_size belS)); (case aL => have := LMc10.out; omega); intro vBJ w12 ho hb hg hat; rw [← NyBI.out] at ho; have n0_ := Aside0.mk (blk_grown (g := gbBD) (o := .cells #[.int .i64 a0_0, .int .i64 a0_1, .int .i64 a0_2, .int .i64 a0_3] 38 (0, 0)) (blk_up BKBD.out) hg (Kd.R_ne HO_5.out BKBD.out (by decide))); have n1_ := Aside0.mk (hb); have n2_ := Aside0.mk (ho); clear BKBD HB HO_5; revert n0_ n1_ n2_; intro BKBD HB HOBK; clear ho hb hg hat))
      go_roundg k1
      case measure => have := HK1.out; omega
      case rel => exact ⟨(yBI), (wrap64 (x11_1 + 1)), (by first | rfl | (simp; done) | (simp [*]; done)), H', ⟨by have := HK1.out; omega⟩, ⟨by (with_reducible repeat (first | apply Kd.R_alloc | apply Kd.R_drewN | apply Kd.R_drew)); exact HOBK.out⟩, ⟨by (with_reducible repeat (first | refine blk_drewN ?_ _ | refine blk_drew ?_ | refine blk_alloc ?_ _)); exact BKBD.out⟩, ⟨by exact belS⟩⟩
     ·rw [if_neg c10] at H
      exact absurd H (by simp)
    ·rw [if_neg c9] at H
     have c9b0 : decide ((wrap64 (tBH + a1)) ≤ a0_0) = false := decide_eq_false c9
     clear c9
     have H' := Aside0.mk H
     clear H
     have hidx_ := pick_idx A8.out
     obtain ⟨hcz13_0, hcz13_1, hcz13_2, hcz13_3, hfz13_0, hfz13_1, hfz13_2, hfz13_3⟩ := blk4 BKBD.out
     go_wp2_with (first | fail)
     go_roundg k1
     case measure => have := HK1.out; omega
     case rel => exact ⟨(x5_1), (wrap64 (x11_1 + 1)), (by first | rfl | (simp; done) | (simp [*]; done)), H', ⟨by have := HK1.out; omega⟩, ⟨by (with_reducible repeat (first | apply Kd.R_alloc | apply Kd.R_drewN | apply Kd.R_drew)); exact HO_5.out⟩, ⟨by (with_reducible repeat (first | refine blk_drewN ?_ _ | refine blk_drew ?_ | refine blk_alloc ?_ _)); exact BKBD.out⟩, ⟨by exact belS⟩⟩
   ·rw [if_neg c7] at H
    have c7b0 : decide (x11_1 < 2) = false := decide_eq_false c7
    clear c7
    obtain rfl := Option.some.inj H
    go_wp2
    go_ret
    exact ⟨_, by first | rfl | (simp [errW_none, errW_some] <;> rfl) | (simp [*, errW_none, errW_some] <;> rfl), by (with_reducible repeat (first | apply Kd.R_alloc | apply Kd.R_drewN | apply Kd.R_drew)); exact HO_5.out, by exact belS⟩

end Go.Proofs.Ytogfijfhjdjhpaa.Pr
