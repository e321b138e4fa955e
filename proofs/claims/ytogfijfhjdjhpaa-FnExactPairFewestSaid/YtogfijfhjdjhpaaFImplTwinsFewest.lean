-- A text of the machine side, written by wip/gen.py of this repo out of the translation. Not trusted: Lean checks it.
import Derived.Test.YtogfijfhjdjhpaaF0
import Derived.Test.YtogfijfhjdjhpaaFImplBehind
import Derived.Test.YtogfijfhjdjhpaaFImplTwins30
import Derived.Test.YtogfijfhjdjhpaaFImplTwins37
import Derived.Test.YtogfijfhjdjhpaaHTwins
namespace Go.Proofs.Ytogfijfhjdjhpaa.Pr
open Go.RowKit Go.Proofs.YtogfijfhjdjhpaaW.PrintWords Go.Proofs.YtogfijfhjdjhpaaW.PrintLast Go.Proofs.YtogfijfhjdjhpaaW.PrintMore
attribute [local go_sem] max2_int min2_int max_two min_two max_three min_three max_four min_four   -- for this text's walks alone
set_option linter.unusedVariables false
set_option linter.unusedSimpArgs false

/-! ### impl_twins_fewest: function 24 -/
mutual
def impl_twins_fewest.l0 : Nat → List (S38) → Int → Int → Int → Int → Int → Option (Int)
 | 0, _, _, _, _, _, _ => none
 | k + 1, x3, x4, xBE000, xBE001, xBE002, xBE003 => (impl_twins_37.f k x3 doneV).bind fun tBH => (if tBH = true then (some x4) else (impl_twins_fewest.l1 k x3 x4 (([] : List (S38))) 1 xBE000 xBE001 xBE002 xBE003))
def impl_twins_fewest.l1 : Nat → List (S38) → Int → List (S38) → Int → Int → Int → Int → Int → Option (Int)
 | 0, _, _, _, _, _, _, _, _ => none
 | k + 1, x3, x4, x5, x6, xBE000, xBE001, xBE002, xBE003 => if x6 ≤ xBE001 then ((impl_behind.f k x3 x6).bind fun tBL => (impl_twins_fewest.l2 k x3 x4 x5 x6 tBL (tBL.length : Int) 0 xBE000 xBE001 xBE002 xBE003)) else (impl_twins_fewest.l0 k x5 (wrap64 (x4 + 1)) xBE000 xBE001 xBE002 xBE003)
def impl_twins_fewest.l2 : Nat → List (S38) → Int → List (S38) → Int → List (S38) → Int → Int → Int → Int → Int → Int → Option (Int)
 | 0, _, _, _, _, _, _, _, _, _, _, _ => none
 | k + 1, x3, x4, x5, x6, x23, x24, x25, xBE000, xBE001, xBE002, xBE003 => if x25 < x24 then (if 0 ≤ x25 then (if x25 < (x23.length : Int) then ((impl_twins_30.f k x5 ((rd_T38 x23 x25).f0) ((rd_T38 x23 x25).f1) ((rd_T38 x23 x25).f2) ((rd_T38 x23 x25).f3)).bind fun tBQ => (if tBQ = true then (impl_twins_fewest.l2 k x3 x4 x5 x6 x23 x24 (wrap64 (x25 + 1)) xBE000 xBE001 xBE002 xBE003) else (if x5.length < 4398046511104 then (impl_twins_fewest.l2 k x3 x4 (x5 ++ [(⟨(rd_T38 x23 x25).f0, (rd_T38 x23 x25).f1, (rd_T38 x23 x25).f2, (rd_T38 x23 x25).f3⟩ : S38)]) x6 x23 x24 (wrap64 (x25 + 1)) xBE000 xBE001 xBE002 xBE003) else (none)))) else (none)) else (none)) else (impl_twins_fewest.l1 k x3 x4 x5 (wrap64 (x6 + 1)) xBE000 xBE001 xBE002 xBE003)
end
def impl_twins_fewest.f (k : Nat) (a0_0 : Int) (a0_1 : Int) (a0_2 : Int) (a0_3 : Int) : Option (Int) := impl_twins_fewest.l0 k (([(⟨a0_0, a0_1, a0_2, a0_3⟩ : S38)] : List (S38))) 0 a0_0 a0_1 a0_2 a0_3
set_option maxHeartbeats 8000000 in
set_option maxRecDepth 100000 in
theorem impl_twins_fewest.calls (k : Nat) (a0_0 : Int) (a0_1 : Int) (a0_2 : Int) (a0_3 : Int) (r : Int) (w : World) (h : impl_twins_fewest.f k a0_0 a0_1 a0_2 a0_3 = some r) :
  Calls Try.prog 24 #[.agg #[.int .i64 a0_0, .int .i64 a0_1, .int .i64 a0_2, .int .i64 a0_3]] w fun e w' => e = .returned (.int .i64 r) ∧ Below w.heap.size w w' := by
 have hu38 := Try.underlying38
 have hu36 := Try.underlying36
 have HB := Aside0.mk (Below.refl w.heap.size w)
 have H : (impl_twins_fewest.l0 k (([(⟨a0_0, a0_1, a0_2, a0_3⟩ : S38)] : List (S38))) 0 a0_0 a0_1 a0_2 a0_3) = some r := h
 clear h
 obtain ⟨yBE, hyBE⟩ : ∃ y_ : List (S38), y_ = (([(⟨a0_0, a0_1, a0_2, a0_3⟩ : S38)] : List (S38))) := ⟨_, rfl⟩
 replace H : (impl_twins_fewest.l0 k yBE 0 a0_0 a0_1 a0_2 a0_3) = some r := by first | (rw [hyBE]; with_reducible exact H) | (have H2_ := (Option.bind_some _ _).symm.trans H; rw [hyBE]; with_reducible exact H2_) | (have H2_ := (Option.bind_some _ _).symm.trans H; with_reducible exact H2_) | with_reducible exact H | (rw [hyBE]; exact H) | exact H
 have NyBE := Aside0.mk hyBE
 clear hyBE
 have H' := Aside0.mk H
 clear H
 go_enter Try.func24, Try.ntmps24
 go_wp2_with (first | ((with_reducible refine gate_dst (N := 1) rfl ?_); refine box_event ?hg (N := 1) ?hd (cs := #[.int .i64 a0_0, .int .i64 a0_1, .int .i64 a0_2, .int .i64 a0_3]) (t := 38) ?hr ?_; (case hd => rfl); (case hg => rfl); (case hr => first | (go_simp; done) | (go_simp; rfl)); intro gbBD hg w2 hbox hb; have n0_ := Aside0.mk (below_step belS hb); have n1_ := Aside0.mk (hbox); have n2_ := Aside0.mk (geS hg : w.heap.size ≤ gbBD); have n3_ := n2_; clear HB; revert n0_ n1_ n2_ n3_; intro HB BKBD GWBD GEBD; clear hb hbox hg; obtain ⟨hcz3_0, hcz3_1, hcz3_2, hcz3_3, hfz3_0, hfz3_1, hfz3_2, hfz3_3⟩ := blk4 BKBD.out) | ((with_reducible refine gate_dst (N := 10) rfl ?_); refine Kd.R_lit k38 _ 38 ?hg (N := 10) ?hd (xs := ([(⟨a0_0, a0_1, a0_2, a0_3⟩ : S38)] : List (S38))) (inner := [.int .i64 a0_0, .int .i64 a0_1, .int .i64 a0_2, .int .i64 a0_3]) (ok := fun _ => True) (okp := fun _ => True) ?hr ?hp (fun _ hk => hk) trivial (Below.refl _ _) (Nat.le_refl _) (by simp) ?_; (case hd => rfl); (case hg => rfl); (case hr => first | (go_simp; done) | (go_simp; rfl)); (case hp => exact (Reps.c4 (show Kd.M k38 _ _ _ (⟨a0_0, a0_1, a0_2, a0_3⟩ : S38) [.int .i64 a0_0, .int .i64 a0_1, .int .i64 a0_2, .int .i64 a0_3] from (k38_mkM _ _ _ (⟨a0_0, a0_1, a0_2, a0_3⟩ : S38) )) (Reps.none _ _))); intro vBF w4 ho5 hb hg_ hnew_; clear hg_ hnew_; (first | rw [← NyBE.out] at ho5 | (simp only [Int.reduceToNat] at ho5; rw [← NyBE.out] at ho5)); have n0_ := Aside0.mk (Kd.R_lower (Kd.R_newB ho5 (g := gbBD) (o := .cells #[.int .i64 a0_0, .int .i64 a0_1, .int .i64 a0_2, .int .i64 a0_3] 38 (0, 0)) (blk_up BKBD.out)) (below_size belS)); have n1_ := Aside0.mk (blk_below (blk_up BKBD.out) hb); have n2_ := Aside0.mk (below_step belS hb); clear BKBD HB; revert n0_ n1_ n2_; intro HOBG BKBD HB; clear hb ho5))
 go_loopg [3, 4] k (fun kq v3 v4 w' => ∃ (x3_1 : List (S38)) (x4_1 : Int), v4 = .int .i64 x4_1 ∧ Aside0 (impl_twins_fewest.l0 kq x3_1 x4_1 a0_0 a0_1 a0_2 a0_3 = some r) ∧ Aside0 (kq ≤ k) ∧ Aside0 (Kd.R k38 38 w' w.heap.size (fun k_ => k_ ≠ gbBD) v3 x3_1) ∧ Aside0 (w'.heap[gbBD]? = some (.cells #[.int .i64 a0_0, .int .i64 a0_1, .int .i64 a0_2, .int .i64 a0_3] 38 (0, 0))) ∧ Aside0 (Below w.heap.size w w'))
 case atStart => exact ⟨(yBE), (0), (by first | rfl | (simp; done) | (simp [*]; done)), H', ⟨Nat.le_refl _⟩, ⟨by (with_reducible repeat (first | apply Kd.R_alloc | apply Kd.R_drewN | apply Kd.R_drew)); exact Kd.R_mono HOBG.out (fun _ hk => hk.2)⟩, ⟨by (with_reducible repeat (first | refine blk_drewN ?_ _ | refine blk_drew ?_ | refine blk_alloc ?_ _)); exact BKBD.out⟩, ⟨by exact belS⟩⟩
 case round =>
  clear H'
  try clear c2
  try clear p2
  try clear c4
  try clear hcz3_0 hcz3_1 hcz3_2 hcz3_3
  try clear hfz3_0 hfz3_1 hfz3_2 hfz3_3
  obtain ⟨x3_1, x4_1, rfl, HA, HK1, HO_3, BKBD, HB⟩ := hrel
  cases gk with
  | zero => exact absurd HA.out (by simp [impl_twins_fewest.l0])
  | succ k1 =>
   have H := HA.out
   clear HA
   simp only [impl_twins_fewest.l0] at H
   replace H := Option.bind_eq_some_iff.mp H
   obtain ⟨tBH, A60, H⟩ := H
   replace H : (if tBH = true then (some x4_1) else (impl_twins_fewest.l1 k1 x3_1 x4_1 (([] : List (S38))) 1 a0_0 a0_1 a0_2 a0_3)) = some r := H
   have A6 := Aside0.mk A60
   clear A60
   by_cases c7 : tBH = true
   ·subst c7
    have H1 : (some x4_1) = some r := by rw [if_pos rfl] at H; exact H
    clear H
    have H := H1
    clear H1
    obtain rfl := Option.some.inj H
    obtain ⟨Ao8, co8, eo8⟩ := Kd.R_slice HO_3.out
    subst eo8
    go_wp2_with (first | ((with_reducible refine gate_callee (f := 37) rfl ?_); refine goesL_ (some 12) rfl rfl Try.func37 (by kernel_rfl) rfl #[.slice Ao8 x3_1.length co8, FvT.v doneV] rfl argS ?_; (with_reducible refine (impl_twins_37.calls k1 _ _ x3_1 doneV true _ ?side1 ?side2 A6.out doneV_ok).mono ?_); (case side1 => exact Kd.C_up (Kd.R_reads' HO_3.out).2.2); (case side2 => exact (Kd.R_reads' HO_3.out).2.1); rintro e w9 ⟨rfl, hb⟩; refine ⟨_, rfl, ?_⟩; have n0_ := Aside0.mk (Kd.R_below (Kd.R_up HO_3.out) hb); have n1_ := Aside0.mk (blk_below (blk_up BKBD.out) hb); have n2_ := Aside0.mk (below_step belS hb); clear HO_3 BKBD HB; revert n0_ n1_ n2_; intro HO_3 BKBD HB; (try clear hb)))
    go_ret
    exact ⟨by first | rfl | (simp [errW_none, errW_some] <;> rfl) | (simp [*, errW_none, errW_some] <;> rfl), by exact belS⟩
   ·replace c7 := Bool.eq_false_iff.mpr c7
    subst c7
    have H1 : (impl_twins_fewest.l1 k1 x3_1 x4_1 (([] : List (S38))) 1 a0_0 a0_1 a0_2 a0_3) = some r := by rw [if_neg (show ¬ (false = true) by decide)] at H; exact H
    clear H
    have H := H1
    clear H1
    obtain ⟨yBI, hyBI⟩ : ∃ y_ : List (S38), y_ = (([] : List (S38))) := ⟨_, rfl⟩
    replace H : (impl_twins_fewest.l1 k1 x3_1 x4_1 yBI 1 a0_0 a0_1 a0_2 a0_3) = some r := by first | (rw [hyBI]; with_reducible exact H) | (have H2_ := (Option.bind_some _ _).symm.trans H; rw [hyBI]; with_reducible exact H2_) | (have H2_ := (Option.bind_some _ _).symm.trans H; with_reducible exact H2_) | with_reducible exact H | (rw [hyBI]; exact H) | exact H
    have NyBI := Aside0.mk hyBI
    clear hyBI
    have H' := Aside0.mk H
    clear H
    obtain ⟨Ao10, co10, eo10⟩ := Kd.R_slice HO_3.out
    subst eo10
    go_wp2_with (first | ((with_reducible refine gate_callee (f := 37) rfl ?_); refine goesL_ (some 12) rfl rfl Try.func37 (by kernel_rfl) rfl #[.slice Ao10 x3_1.length co10, FvT.v doneV] rfl argS ?_; (with_reducible refine (impl_twins_37.calls k1 _ _ x3_1 doneV false _ ?side1 ?side2 A6.out doneV_ok).mono ?_); (case side1 => exact Kd.C_up (Kd.R_reads' HO_3.out).2.2); (case side2 => exact (Kd.R_reads' HO_3.out).2.1); rintro e w11 ⟨rfl, hb⟩; refine ⟨_, rfl, ?_⟩; have n0_ := Aside0.mk (Kd.R_below (Kd.R_up HO_3.out) hb); have n1_ := Aside0.mk (blk_below (blk_up BKBD.out) hb); have n2_ := Aside0.mk (below_step belS hb); clear HO_3 BKBD HB; revert n0_ n1_ n2_; intro HO_3 BKBD HB; (try clear hb)) | ((with_reducible refine gate_dst (N := 14) rfl ?_); refine Kd.R_lit k38 _ 38 ?hg (N := 14) ?hd (xs := ([] : List (S38))) (inner := []) (ok := fun _ => True) (okp := fun _ => True) ?hr ?hp (fun _ hk => hk) trivial (Below.refl _ _) (Nat.le_refl _) (by simp) ?_; (case hd => rfl); (case hg => rfl); (case hr => first | (go_simp; done) | (go_simp; rfl)); (case hp => exact (Reps.none _ _)); intro vBJ w12 ho13 hb hg_ hnew_; clear hg_ hnew_; (first | rw [← NyBI.out] at ho13 | (simp only [Int.reduceToNat] at ho13; rw [← NyBI.out] at ho13)); have n0_ := Aside0.mk (Kd.R_elder' (Kd.R_up HO_3.out) (Kd.R_base ho13) hb); have n1_ := Aside0.mk (Kd.R_lower (Kd.R_newB (Kd.R_new' ho13 (Kd.R_lt (Kd.R_up HO_3.out))) (g := gbBD) (o := .cells #[.int .i64 a0_0, .int .i64 a0_1, .int .i64 a0_2, .int .i64 a0_3] 38 (0, 0)) (blk_up BKBD.out)) (below_size belS)); have n2_ := Aside0.mk (blk_below (blk_up BKBD.out) hb); have n3_ := Aside0.mk (below_step belS hb); clear HO_3 BKBD HB; revert n0_ n1_ n2_ n3_; intro HO_3 HOBK BKBD HB; clear hb ho13))
    go_loopg [5, 6] k1 (fun kq v5 v6 w' => ∃ (x5_2 : List (S38)) (x6_2 : Int), v6 = .int .i64 x6_2 ∧ Aside0 (impl_twins_fewest.l1 kq x3_1 x4_1 x5_2 x6_2 a0_0 a0_1 a0_2 a0_3 = some r) ∧ Aside0 (kq ≤ k1) ∧ Aside0 (Kd.R k38 38 w' w.heap.size (fun k_ => some k_ ≠ (v5 : Value).ownBlock ∧ k_ ≠ gbBD) (.slice Ao10 x3_1.length co10) x3_1) ∧ Aside0 (Kd.R k38 38 w' w.heap.size (fun k_ => some k_ ≠ ((.slice Ao10 x3_1.length co10) : Value).ownBlock ∧ k_ ≠ gbBD) v5 x5_2) ∧ Aside0 (w'.heap[gbBD]? = some (.cells #[.int .i64 a0_0, .int .i64 a0_1, .int .i64 a0_2, .int .i64 a0_3] 38 (0, 0))) ∧ Aside0 (Below w.heap.size w w'))
    case atStart => exact ⟨(yBI), (1), (by first | rfl | (simp; done) | (simp [*]; done)), H', ⟨Nat.le_refl _⟩, ⟨by (with_reducible repeat (first | apply Kd.R_alloc | apply Kd.R_drewN | apply Kd.R_drew)); exact Kd.R_mono HO_3.out (fun _ hk => ⟨hk.2, hk.1⟩)⟩, ⟨by (with_reducible repeat (first | apply Kd.R_alloc | apply Kd.R_drewN | apply Kd.R_drew)); exact Kd.R_mono HOBK.out (fun _ hk => ⟨hk.1.2, hk.2⟩)⟩, ⟨by (with_reducible repeat (first | refine blk_drewN ?_ _ | refine blk_drew ?_ | refine blk_alloc ?_ _)); exact BKBD.out⟩, ⟨by exact belS⟩⟩
    case round =>
     clear H'
     try clear c2
     try clear p2
     try clear c3
     try clear c4
     try clear c7
     try clear hcz3_0 hcz3_1 hcz3_2 hcz3_3
     try clear hfz3_0 hfz3_1 hfz3_2 hfz3_3
     try clear p2
     obtain ⟨x5_2, x6_2, rfl, HA, HK2, HO_3, HO_5, BKBD, HB⟩ := hrel
     cases gk with
     | zero => exact absurd HA.out (by simp [impl_twins_fewest.l1])
     | succ k2 =>
      have H := HA.out
      clear HA
      simp only [impl_twins_fewest.l1] at H
      by_cases c14 : x6_2 ≤ a0_1
      ·rw [if_pos c14] at H
       have c14b0 : decide (x6_2 ≤ a0_1) = true := decide_eq_true c14
       clear c14
       replace H := Option.bind_eq_some_iff.mp H
       obtain ⟨tBL, A150, H⟩ := H
       replace H : (impl_twins_fewest.l2 k2 x3_1 x4_1 x5_2 x6_2 tBL (tBL.length : Int) 0 a0_0 a0_1 a0_2 a0_3) = some r := H
       have A15 := Aside0.mk A150
       clear A150
       have H' := Aside0.mk H
       clear H
       obtain ⟨hcz16_0, hcz16_1, hcz16_2, hcz16_3, hfz16_0, hfz16_1, hfz16_2, hfz16_3⟩ := blk4 BKBD.out
       go_wp2_with (first | ((with_reducible refine gate_callee (f := 29) rfl ?_); refine goesL_ (some 23) rfl rfl Try.func29 (by kernel_rfl) rfl #[.slice Ao10 x3_1.length co10, .int .i64 x6_2] rfl argS ?_; (with_reducible refine (impl_behind.calls k2 _ _ x3_1 x6_2 tBL _ ?side1 ?side2 A15.out).mono ?_); (case side1 => exact Kd.C_up (Kd.R_reads' HO_3.out).2.2); (case side2 => exact (Kd.R_reads' HO_3.out).2.1); rintro e w17 ⟨vBM, rfl, ho0, hb⟩; refine ⟨_, rfl, ?_⟩; have n0_ := Aside0.mk (Kd.R_elder' (Kd.R_up HO_3.out) (Kd.R_base ho0) hb); have n1_ := Aside0.mk (Kd.R_elder' (Kd.R_up HO_5.out) (Kd.R_base ho0) hb); have n2_ := Aside0.mk (Kd.R_lower (Kd.R_newB (Kd.R_new' (Kd.R_new' ho0 (Kd.R_lt (Kd.R_up HO_3.out))) (Kd.R_lt (Kd.R_up HO_5.out))) (g := gbBD) (o := .cells #[.int .i64 a0_0, .int .i64 a0_1, .int .i64 a0_2, .int .i64 a0_3] 38 (0, 0)) (blk_up BKBD.out)) (below_size belS)); have n3_ := Aside0.mk (blk_below (blk_up BKBD.out) hb); have n4_ := Aside0.mk (below_step belS hb); clear HO_3 HO_5 BKBD HB; revert n0_ n1_ n2_ n3_ n4_; intro HO_3 HO_5 HOBN BKBD HB; (try clear hb); (try clear ho0); obtain ⟨Ao18, co18, eo18⟩ := Kd.R_slice HOBN.out; subst eo18))
       go_loopg [5, 25] k2 (fun kq v5 v25 w' => ∃ (x5_3 : List (S38)) (x25_3 : Int), v25 = .int .i64 x25_3 ∧ Aside0 (impl_twins_fewest.l2 kq x3_1 x4_1 x5_3 x6_2 tBL (tBL.length : Int) x25_3 a0_0 a0_1 a0_2 a0_3 = some r) ∧ Aside0 (kq ≤ k2) ∧ Aside0 (Kd.R k38 38 w' w.heap.size (fun k_ => some k_ ≠ (v5 : Value).ownBlock ∧ some k_ ≠ ((.slice Ao18 tBL.length co18) : Value).ownBlock ∧ k_ ≠ gbBD) (.slice Ao10 x3_1.length co10) x3_1) ∧ Aside0 (Kd.R k38 38 w' w.heap.size (fun k_ => some k_ ≠ ((.slice Ao10 x3_1.length co10) : Value).ownBlock ∧ some k_ ≠ ((.slice Ao18 tBL.length co18) : Value).ownBlock ∧ k_ ≠ gbBD) v5 x5_3) ∧ Aside0 (Kd.R k38 38 w' w.heap.size (fun k_ => some k_ ≠ ((.slice Ao10 x3_1.length co10) : Value).ownBlock ∧ some k_ ≠ (v5 : Value).ownBlock ∧ k_ ≠ gbBD) (.slice Ao18 tBL.length co18) tBL) ∧ Aside0 (w'.heap[gbBD]? = some (.cells #[.int .i64 a0_0, .int .i64 a0_1, .int .i64 a0_2, .int .i64 a0_3] 38 (0, 0))) ∧ Aside0 (Below w.heap.size w w'))
       case atStart => exact ⟨(x5_2), (0), (by first | rfl | (simp; done) | (simp [*]; done)), H', ⟨Nat.le_refl _⟩, ⟨by (with_reducible repeat (first | apply Kd.R_alloc | apply Kd.R_drewN | apply Kd.R_drew)); exact Kd.R_mono HO_3.out (fun _ hk => ⟨hk.1.1, ⟨hk.2, hk.1.2⟩⟩)⟩, ⟨by (with_reducible repeat (first | apply Kd.R_alloc | apply Kd.R_drewN | apply Kd.R_drew)); exact Kd.R_mono HO_5.out (fun _ hk => ⟨hk.1.1, ⟨hk.2, hk.1.2⟩⟩)⟩, ⟨by (with_reducible repeat (first | apply Kd.R_alloc | apply Kd.R_drewN | apply Kd.R_drew)); exact Kd.R_mono HOBN.out (fun _ hk => ⟨hk.1.1.2, ⟨hk.1.2, hk.2⟩⟩)⟩, ⟨by (with_reducible repeat (first | refine blk_drewN ?_ _ | refine blk_drew ?_ | refine blk_alloc ?_ _)); exact BKBD.out⟩, ⟨by exact belS⟩⟩
       case round =>
        clear H'
        try clear c1
        try clear c2
        try clear p2
        try clear c3
        try clear c4
        try clear c7
        try clear c14
        try clear c14b0
        try clear hcz16_0 hcz16_1 hcz16_2 hcz16_3
        try clear hcz3_0 hcz3_1 hcz3_2 hcz3_3
        try clear hfz16_0 hfz16_1 hfz16_2 hfz16_3
        try clear hfz3_0 hfz3_1 hfz3_2 hfz3_3
        try clear p2
        obtain ⟨x5_3, x25_3, rfl, HA, HK3, HO_3, HO_5, HO_23, BKBD, HB⟩ := hrel
        cases gk with
        | zero => exact absurd HA.out (by simp [impl_twins_fewest.l2])
        | succ k3 =>
         have H := HA.out
         clear HA
         simp only [impl_twins_fewest.l2] at H
         by_cases c19 : x25_3 < (tBL.length : Int)
         ·rw [if_pos c19] at H
          have c19b0 : decide (x25_3 < (tBL.length : Int)) = true := decide_eq_true c19
          clear c19
          by_cases c20 : 0 ≤ x25_3
          ·rw [if_pos c20] at H
           have c20b0 : decide (0 ≤ x25_3) = true := decide_eq_true c20
           clear c20
           by_cases c21 : x25_3 < (tBL.length : Int)
           ·rw [if_pos c21] at H
            have c21b0 : decide (x25_3 < (tBL.length : Int)) = true := decide_eq_true c21
            clear c21
            replace H := Option.bind_eq_some_iff.mp H
            obtain ⟨tBQ, A220, H⟩ := H
            replace H : (if tBQ = true then (impl_twins_fewest.l2 k3 x3_1 x4_1 x5_3 x6_2 tBL (tBL.length : Int) (wrap64 (x25_3 + 1)) a0_0 a0_1 a0_2 a0_3) else (if x5_3.length < 4398046511104 then (impl_twins_fewest.l2 k3 x3_1 x4_1 (x5_3 ++ [(⟨(rd_T38 tBL x25_3).f0, (rd_T38 tBL x25_3).f1, (rd_T38 tBL x25_3).f2, (rd_T38 tBL x25_3).f3⟩ : S38)]) x6_2 tBL (tBL.length : Int) (wrap64 (x25_3 + 1)) a0_0 a0_1 a0_2 a0_3) else (none))) = some r := H
            have A22 := Aside0.mk A220
            clear A220
            by_cases c23 : tBQ = true
            ·subst c23
             have H1 : (impl_twins_fewest.l2 k3 x3_1 x4_1 x5_3 x6_2 tBL (tBL.length : Int) (wrap64 (x25_3 + 1)) a0_0 a0_1 a0_2 a0_3) = some r := by rw [if_pos rfl] at H; exact H
             clear H
             have H := H1
             clear H1
             have H' := Aside0.mk H
             clear H
             have pBO : 0 ≤ (x25_3 : Int) := of_decide_eq_true (by first | (with_reducible assumption) | assumption)
             have qBO : x25_3 < (tBL.length : Int) := of_decide_eq_true (by first | (with_reducible assumption) | assumption)
             obtain ⟨adBO, eBO, hxBO_0, hxBO_1, hxBO_2, hxBO_3⟩ := at_T38 (Kd.R_reads' HO_23.out).2.2 x25_3 pBO qBO
             cases eBO
             replace pBO := eq_true pBO
             replace qBO := eq_true qBO
             go_wp2_with (first | ((with_reducible refine gate_dst (N := 8) rfl ?_); refine box_event ?hg (N := 8) ?hd (cs := #[.int .i64 0, .int .i64 0, .int .i64 0, .int .i64 0]) (t := 38) ?hr ?_; (case hd => rfl); (case hg => rfl); (case hr => first | (go_simp; done) | (go_simp; rfl)); intro gbBP hg w24 hbox hb; have n0_ := Aside0.mk (Kd.R_below (Kd.R_elderB (Kd.R_up HO_3.out) gbBP (Nat.le_of_eq hg.symm)) hb); have n1_ := Aside0.mk (Kd.R_below (Kd.R_elderB (Kd.R_up HO_5.out) gbBP (Nat.le_of_eq hg.symm)) hb); have n2_ := Aside0.mk (Kd.R_below (Kd.R_elderB (Kd.R_up HO_23.out) gbBP (Nat.le_of_eq hg.symm)) hb); have n3_ := Aside0.mk (blk_below (blk_up BKBD.out) hb); have n4_ := Aside0.mk (below_step belS hb); have n5_ := Aside0.mk (hbox); have n6_ := Aside0.mk (geS hg : w.heap.size ≤ gbBP); have n7_ := n6_; have n8_ := Aside0.mk ((by rw [hg]; exact Nat.ne_of_lt (blk_lt (blk_up BKBD.out)) : gbBD ≠ gbBP)); have n9_ := Aside0.mk ((by rw [hg]; exact Nat.ne_of_gt (blk_lt (blk_up BKBD.out)) : gbBP ≠ gbBD)); clear HO_3 HO_5 HO_23 BKBD HB; revert n0_ n1_ n2_ n3_ n4_ n5_ n6_ n7_ n8_ n9_; intro HO_3 HO_5 HO_23 BKBD HB BKBP GWBP GEBP NBBD_BP NBBP_BD; clear hb hbox hg; have hnb25 := NBBP_BD.out; have hnc25 := NBBD_BP.out; obtain ⟨hcz26_0, hcz26_1, hcz26_2, hcz26_3, hfz26_0, hfz26_1, hfz26_2, hfz26_3⟩ := blk4 BKBP.out; obtain ⟨Ao27, co27, eo27⟩ := Kd.R_slice HO_5.out; subst eo27) | ((with_reducible refine gate_callee (f := 30) rfl ?_); refine goesL_ (some 31) rfl rfl Try.func30 (by kernel_rfl) rfl #[.slice Ao27 x5_3.length co27, .agg #[.int .i64 ((rd_T38 tBL x25_3).f0), .int .i64 ((rd_T38 tBL x25_3).f1), .int .i64 ((rd_T38 tBL x25_3).f2), .int .i64 ((rd_T38 tBL x25_3).f3)]] rfl argS ?_; (with_reducible refine (impl_twins_30.calls k3 _ _ x5_3 ((rd_T38 tBL x25_3).f0) ((rd_T38 tBL x25_3).f1) ((rd_T38 tBL x25_3).f2) ((rd_T38 tBL x25_3).f3) true _ ?side1 ?side2 A22.out).mono ?_); (case side1 => refine (Kd.R_reads' (e := 38) (base := w.heap.size) (ok := fun k_ => ((some k_ ≠ (.slice Ao10 x3_1.length co10 : Value).ownBlock ∧ (some k_ ≠ (.slice (some adBO) tBL.length co18 : Value).ownBlock ∧ k_ ≠ gbBD)) ∧ k_ ≠ gbBP)) (n := x5_3.length) (c := co27) ?_).2.2; exact (by (with_reducible repeat (first | apply Kd.R_alloc | apply Kd.R_drewN | apply Kd.R_drew)); exact (Kd.R_mono (Kd.R_far (p := ⟨gbBP, 3, none⟩) (Kd.R_far (p := ⟨gbBP, 2, none⟩) (Kd.R_far (p := ⟨gbBP, 1, none⟩) (Kd.R_far (p := ⟨gbBP, 0, none⟩) (Kd.R_mono HO_5.out (fun k_ hk => (⟨hk, hk.2⟩ : _ ∧ k_ ≠ gbBP))) (fun _ hk => hk.2) (.int .i64 ((rd_T38 tBL x25_3).f0))) (fun _ hk => hk.2) (.int .i64 ((rd_T38 tBL x25_3).f1))) (fun _ hk => hk.2) (.int .i64 ((rd_T38 tBL x25_3).f2))) (fun _ hk => hk.2) (.int .i64 ((rd_T38 tBL x25_3).f3))) (fun _ h_ => h_.1)))); (case side2 => exact (Kd.R_reads' HO_5.out).2.1); rintro e w28 ⟨rfl, hb⟩; refine ⟨_, rfl, ?_⟩; have n0_ := Aside0.mk (Kd.R_below (by (with_reducible repeat (first | apply Kd.R_alloc | apply Kd.R_drewN | apply Kd.R_drew)); exact (Kd.R_mono (Kd.R_far (p := ⟨gbBP, 3, none⟩) (Kd.R_far (p := ⟨gbBP, 2, none⟩) (Kd.R_far (p := ⟨gbBP, 1, none⟩) (Kd.R_far (p := ⟨gbBP, 0, none⟩) (Kd.R_mono HO_3.out (fun k_ hk => (⟨hk, hk.2⟩ : _ ∧ k_ ≠ gbBP))) (fun _ hk => hk.2) (.int .i64 ((rd_T38 tBL x25_3).f0))) (fun _ hk => hk.2) (.int .i64 ((rd_T38 tBL x25_3).f1))) (fun _ hk => hk.2) (.int .i64 ((rd_T38 tBL x25_3).f2))) (fun _ hk => hk.2) (.int .i64 ((rd_T38 tBL x25_3).f3))) (fun _ h_ => h_.1))) hb); have n1_ := Aside0.mk (Kd.R_below (by (with_reducible repeat (first | apply Kd.R_alloc | apply Kd.R_drewN | apply Kd.R_drew)); exact (Kd.R_mono (Kd.R_far (p := ⟨gbBP, 3, none⟩) (Kd.R_far (p := ⟨gbBP, 2, none⟩) (Kd.R_far (p := ⟨gbBP, 1, none⟩) (Kd.R_far (p := ⟨gbBP, 0, none⟩) (Kd.R_mono HO_5.out (fun k_ hk => (⟨hk, hk.2⟩ : _ ∧ k_ ≠ gbBP))) (fun _ hk => hk.2) (.int .i64 ((rd_T38 tBL x25_3).f0))) (fun _ hk => hk.2) (.int .i64 ((rd_T38 tBL x25_3).f1))) (fun _ hk => hk.2) (.int .i64 ((rd_T38 tBL x25_3).f2))) (fun _ hk => hk.2) (.int .i64 ((rd_T38 tBL x25_3).f3))) (fun _ h_ => h_.1))) hb); have n2_ := Aside0.mk (Kd.R_below (by (with_reducible repeat (first | apply Kd.R_alloc | apply Kd.R_drewN | apply Kd.R_drew)); exact (Kd.R_mono (Kd.R_far (p := ⟨gbBP, 3, none⟩) (Kd.R_far (p := ⟨gbBP, 2, none⟩) (Kd.R_far (p := ⟨gbBP, 1, none⟩) (Kd.R_far (p := ⟨gbBP, 0, none⟩) (Kd.R_mono HO_23.out (fun k_ hk => (⟨hk, hk.2⟩ : _ ∧ k_ ≠ gbBP))) (fun _ hk => hk.2) (.int .i64 ((rd_T38 tBL x25_3).f0))) (fun _ hk => hk.2) (.int .i64 ((rd_T38 tBL x25_3).f1))) (fun _ hk => hk.2) (.int .i64 ((rd_T38 tBL x25_3).f2))) (fun _ hk => hk.2) (.int .i64 ((rd_T38 tBL x25_3).f3))) (fun _ h_ => h_.1))) hb); have n3_ := Aside0.mk (blk_below (g := gbBD) (o := .cells #[.int .i64 a0_0, .int .i64 a0_1, .int .i64 a0_2, .int .i64 a0_3] 38 (0, 0)) (by (with_reducible repeat (first | refine blk_drewN ?_ _ | refine blk_drew ?_ | refine blk_alloc ?_ _)); refine blk_farU ?_ NBBD_BP.out _; refine blk_farU ?_ NBBD_BP.out _; refine blk_farU ?_ NBBD_BP.out _; refine blk_farU ?_ NBBD_BP.out _; exact BKBD.out) hb); have n4_ := Aside0.mk (blk_below (g := gbBP) (o := .cells #[.int .i64 ((rd_T38 tBL x25_3).f0), .int .i64 ((rd_T38 tBL x25_3).f1), .int .i64 ((rd_T38 tBL x25_3).f2), .int .i64 ((rd_T38 tBL x25_3).f3)] 38 (0, 0)) (by (with_reducible repeat (first | refine blk_drewN ?_ _ | refine blk_drew ?_ | refine blk_alloc ?_ _)); refine blk_put (cs := #[.int .i64 ((rd_T38 tBL x25_3).f0), .int .i64 ((rd_T38 tBL x25_3).f1), .int .i64 ((rd_T38 tBL x25_3).f2), .int .i64 0]) ?_ 3 _ rfl; refine blk_put (cs := #[.int .i64 ((rd_T38 tBL x25_3).f0), .int .i64 ((rd_T38 tBL x25_3).f1), .int .i64 0, .int .i64 0]) ?_ 2 _ rfl; refine blk_put (cs := #[.int .i64 ((rd_T38 tBL x25_3).f0), .int .i64 0, .int .i64 0, .int .i64 0]) ?_ 1 _ rfl; refine blk_putU (cs := #[.int .i64 0, .int .i64 0, .int .i64 0, .int .i64 0]) ?_ 0 _ rfl; exact BKBP.out) hb); have n5_ := Aside0.mk (below_step belS hb); clear HO_3 HO_5 HO_23 BKBD BKBP HB; revert n0_ n1_ n2_ n3_ n4_ n5_; intro HO_3 HO_5 HO_23 BKBD BKBP HB; (try clear hb); (try clear hk)))
             go_roundg k3
             case measure => have := HK1.out; have := HK2.out; have := HK3.out; omega
             case rel => exact ⟨(x5_3), (wrap64 (x25_3 + 1)), (by first | rfl | (simp; done) | (simp [*]; done)), H', ⟨by have := HK1.out; have := HK2.out; have := HK3.out; omega⟩, ⟨by (with_reducible repeat (first | apply Kd.R_alloc | apply Kd.R_drewN | apply Kd.R_drew)); exact Kd.R_mono HO_3.out (fun _ hk => ⟨hk.1.1, ⟨hk.1.2.1, hk.1.2.2⟩⟩)⟩, ⟨by (with_reducible repeat (first | apply Kd.R_alloc | apply Kd.R_drewN | apply Kd.R_drew)); exact Kd.R_mono HO_5.out (fun _ hk => ⟨hk.1.1, ⟨hk.1.2.1, hk.1.2.2⟩⟩)⟩, ⟨by (with_reducible repeat (first | apply Kd.R_alloc | apply Kd.R_drewN | apply Kd.R_drew)); exact Kd.R_mono HO_23.out (fun _ hk => ⟨hk.1.1, ⟨hk.1.2.1, hk.1.2.2⟩⟩)⟩, ⟨by (with_reducible repeat (first | refine blk_drewN ?_ _ | refine blk_drew ?_ | refine blk_alloc ?_ _)); exact BKBD.out⟩, ⟨by exact belS⟩⟩
            ·replace c23 := Bool.eq_false_iff.mpr c23
             subst c23
             have H1 : (if x5_3.length < 4398046511104 then (impl_twins_fewest.l2 k3 x3_1 x4_1 (x5_3 ++ [(⟨(rd_T38 tBL x25_3).f0, (rd_T38 tBL x25_3).f1, (rd_T38 tBL x25_3).f2, (rd_T38 tBL x25_3).f3⟩ : S38)]) x6_2 tBL (tBL.length : Int) (wrap64 (x25_3 + 1)) a0_0 a0_1 a0_2 a0_3) else (none)) = some r := by rw [if_neg (show ¬ (false = true) by decide)] at H; exact H
             clear H
             have H := H1
             clear H1
             by_cases c29 : x5_3.length < 4398046511104
             ·rw [if_pos c29] at H
              have LMc29 := Aside0.mk c29
              clear c29
              obtain ⟨yBR, hyBR⟩ : ∃ y_ : List (S38), y_ = (x5_3 ++ [(⟨(rd_T38 tBL x25_3).f0, (rd_T38 tBL x25_3).f1, (rd_T38 tBL x25_3).f2, (rd_T38 tBL x25_3).f3⟩ : S38)]) := ⟨_, rfl⟩
              replace H : (impl_twins_fewest.l2 k3 x3_1 x4_1 yBR x6_2 tBL (tBL.length : Int) (wrap64 (x25_3 + 1)) a0_0 a0_1 a0_2 a0_3) = some r := by first | (rw [hyBR]; with_reducible exact H) | (have H2_ := (Option.bind_some _ _).symm.trans H; rw [hyBR]; with_reducible exact H2_) | (have H2_ := (Option.bind_some _ _).symm.trans H; with_reducible exact H2_) | with_reducible exact H | (rw [hyBR]; exact H) | exact H
              have NyBR := Aside0.mk hyBR
              clear hyBR
              have H' := Aside0.mk H
              clear H
              have pBO : 0 ≤ (x25_3 : Int) := of_decide_eq_true (by first | (with_reducible assumption) | assumption)
              have qBO : x25_3 < (tBL.length : Int) := of_decide_eq_true (by first | (with_reducible assumption) | assumption)
              obtain ⟨adBO, eBO, hxBO_0, hxBO_1, hxBO_2, hxBO_3⟩ := at_T38 (Kd.R_reads' HO_23.out).2.2 x25_3 pBO qBO
              cases eBO
              replace pBO := eq_true pBO
              replace qBO := eq_true qBO
              go_wp2_with (first | ((with_reducible refine gate_dst (N := 8) rfl ?_); refine box_event ?hg (N := 8) ?hd (cs := #[.int .i64 0, .int .i64 0, .int .i64 0, .int .i64 0]) (t := 38) ?hr ?_; (case hd => rfl); (case hg => rfl); (case hr => first | (go_simp; done) | (go_simp; rfl)); intro gbBP hg w30 hbox hb; have n0_ := Aside0.mk (Kd.R_below (Kd.R_elderB (Kd.R_up HO_3.out) gbBP (Nat.le_of_eq hg.symm)) hb); have n1_ := Aside0.mk (Kd.R_below (Kd.R_elderB (Kd.R_up HO_5.out) gbBP (Nat.le_of_eq hg.symm)) hb); have n2_ := Aside0.mk (Kd.R_below (Kd.R_elderB (Kd.R_up HO_23.out) gbBP (Nat.le_of_eq hg.symm)) hb); have n3_ := Aside0.mk (blk_below (blk_up BKBD.out) hb); have n4_ := Aside0.mk (below_step belS hb); have n5_ := Aside0.mk (hbox); have n6_ := Aside0.mk (geS hg : w.heap.size ≤ gbBP); have n7_ := n6_; have n8_ := Aside0.mk ((by rw [hg]; exact Nat.ne_of_lt (blk_lt (blk_up BKBD.out)) : gbBD ≠ gbBP)); have n9_ := Aside0.mk ((by rw [hg]; exact Nat.ne_of_gt (blk_lt (blk_up BKBD.out)) : gbBP ≠ gbBD)); clear HO_3 HO_5 HO_23 BKBD HB; revert n0_ n1_ n2_ n3_ n4_ n5_ n6_ n7_ n8_ n9_; intro HO_3 HO_5 HO_23 BKBD HB BKBP GWBP GEBP NBBD_BP NBBP_BD; clear hb hbox hg; have hnb31 := NBBP_BD.out; have hnc31 := NBBD_BP.out; obtain ⟨hcz32_0, hcz32_1, hcz32_2, hcz32_3, hfz32_0, hfz32_1, hfz32_2, hfz32_3⟩ := blk4 BKBP.out; obtain ⟨Ao33, co33, eo33⟩ := Kd.R_slice HO_5.out; subst eo33) | ((with_reducible refine gate_callee (f := 30) rfl ?_); refine goesL_ (some 31) rfl rfl Try.func30 (by kernel_rfl) rfl #[.slice Ao33 x5_3.length co33, .agg #[.int .i64 ((rd_T38 tBL x25_3).f0), .int .i64 ((rd_T38 tBL x25_3).f1), .int .i64 ((rd_T38 tBL x25_3).f2), .int .i64 ((rd_T38 tBL x25_3).f3)]] rfl argS ?_; (with_reducible refine (impl_twins_30.calls k3 _ _ x5_3 ((rd_T38 tBL x25_3).f0) ((rd_T38 tBL x25_3).f1) ((rd_T38 tBL x25_3).f2) ((rd_T38 tBL x25_3).f3) false _ ?side1 ?side2 A22.out).mono ?_); (case side1 => refine (Kd.R_reads' (e := 38) (base := w.heap.size) (ok := fun k_ => ((some k_ ≠ (.slice Ao10 x3_1.length co10 : Value).ownBlock ∧ (some k_ ≠ (.slice (some adBO) tBL.length co18 : Value).ownBlock ∧ k_ ≠ gbBD)) ∧ k_ ≠ gbBP)) (n := x5_3.length) (c := co33) ?_).2.2; exact (by (with_reducible repeat (first | apply Kd.R_alloc | apply Kd.R_drewN | apply Kd.R_drew)); exact (Kd.R_mono (Kd.R_far (p := ⟨gbBP, 3, none⟩) (Kd.R_far (p := ⟨gbBP, 2, none⟩) (Kd.R_far (p := ⟨gbBP, 1, none⟩) (Kd.R_far (p := ⟨gbBP, 0, none⟩) (Kd.R_mono HO_5.out (fun k_ hk => (⟨hk, hk.2⟩ : _ ∧ k_ ≠ gbBP))) (fun _ hk => hk.2) (.int .i64 ((rd_T38 tBL x25_3).f0))) (fun _ hk => hk.2) (.int .i64 ((rd_T38 tBL x25_3).f1))) (fun _ hk => hk.2) (.int .i64 ((rd_T38 tBL x25_3).f2))) (fun _ hk => hk.2) (.int .i64 ((rd_T38 tBL x25_3).f3))) (fun _ h_ => h_.1)))); (case side2 => exact (Kd.R_reads' HO_5.out).2.1); rintro e w34 ⟨rfl, hb⟩; refine ⟨_, rfl, ?_⟩; have n0_ := Aside0.mk (Kd.R_below (by (with_reducible repeat (first | apply Kd.R_alloc | apply Kd.R_drewN | apply Kd.R_drew)); exact (Kd.R_mono (Kd.R_far (p := ⟨gbBP, 3, none⟩) (Kd.R_far (p := ⟨gbBP, 2, none⟩) (Kd.R_far (p := ⟨gbBP, 1, none⟩) (Kd.R_far (p := ⟨gbBP, 0, none⟩) (Kd.R_mono HO_3.out (fun k_ hk => (⟨hk, hk.2⟩ : _ ∧ k_ ≠ gbBP))) (fun _ hk => hk.2) (.int .i64 ((rd_T38 tBL x25_3).f0))) (fun _ hk => hk.2) (.int .i64 ((rd_T38 tBL x25_3).f1))) (fun _ hk => hk.2) (.int .i64 ((rd_T38 tBL x25_3).f2))) (fun _ hk => hk.2) (.int .i64 ((rd_T38 tBL x25_3).f3))) (fun _ h_ => h_.1))) hb); have n1_ := Aside0.mk (Kd.R_below (by (with_reducible repeat (first | apply Kd.R_alloc | apply Kd.R_drewN | apply Kd.R_drew)); exact (Kd.R_mono (Kd.R_far (p := ⟨gbBP, 3, none⟩) (Kd.R_far (p := ⟨gbBP, 2, none⟩) (Kd.R_far (p := ⟨gbBP, 1, none⟩) (Kd.R_far (p := ⟨gbBP, 0, none⟩) (Kd.R_mono HO_5.out (fun k_ hk => (⟨hk, hk.2⟩ : _ ∧ k_ ≠ gbBP))) (fun _ hk => hk.2) (.int .i64 ((rd_T38 tBL x25_3).f0))) (fun _ hk => hk.2) (.int .i64 ((rd_T38 tBL x25_3).f1))) (fun _ hk => hk.2) (.int .i64 ((rd_T38 tBL x25_3).f2))) (fun _ hk => hk.2) (.int .i64 ((rd_T38 tBL x25_3).f3))) (fun _ h_ => h_.1))) hb); have n2_ := Aside0.mk (Kd.R_below (by (with_reducible repeat (first | apply Kd.R_alloc | apply Kd.R_drewN | apply Kd.R_drew)); exact (Kd.R_mono (Kd.R_far (p := ⟨gbBP, 3, none⟩) (Kd.R_far (p := ⟨gbBP, 2, none⟩) (Kd.R_far (p := ⟨gbBP, 1, none⟩) (Kd.R_far (p := ⟨gbBP, 0, none⟩) (Kd.R_mono HO_23.out (fun k_ hk => (⟨hk, hk.2⟩ : _ ∧ k_ ≠ gbBP))) (fun _ hk => hk.2) (.int .i64 ((rd_T38 tBL x25_3).f0))) (fun _ hk => hk.2) (.int .i64 ((rd_T38 tBL x25_3).f1))) (fun _ hk => hk.2) (.int .i64 ((rd_T38 tBL x25_3).f2))) (fun _ hk => hk.2) (.int .i64 ((rd_T38 tBL x25_3).f3))) (fun _ h_ => h_.1))) hb); have n3_ := Aside0.mk (blk_below (g := gbBD) (o := .cells #[.int .i64 a0_0, .int .i64 a0_1, .int .i64 a0_2, .int .i64 a0_3] 38 (0, 0)) (by (with_reducible repeat (first | refine blk_drewN ?_ _ | refine blk_drew ?_ | refine blk_alloc ?_ _)); refine blk_farU ?_ NBBD_BP.out _; refine blk_farU ?_ NBBD_BP.out _; refine blk_farU ?_ NBBD_BP.out _; refine blk_farU ?_ NBBD_BP.out _; exact BKBD.out) hb); have n4_ := Aside0.mk (blk_below (g := gbBP) (o := .cells #[.int .i64 ((rd_T38 tBL x25_3).f0), .int .i64 ((rd_T38 tBL x25_3).f1), .int .i64 ((rd_T38 tBL x25_3).f2), .int .i64 ((rd_T38 tBL x25_3).f3)] 38 (0, 0)) (by (with_reducible repeat (first | refine blk_drewN ?_ _ | refine blk_drew ?_ | refine blk_alloc ?_ _)); refine blk_put (cs := #[.int .i64 ((rd_T38 tBL x25_3).f0), .int .i64 ((rd_T38 tBL x25_3).f1), .int .i64 ((rd_T38 tBL x25_3).f2), .int .i64 0]) ?_ 3 _ rfl; refine blk_put (cs := #[.int .i64 ((rd_T38 tBL x25_3).f0), .int .i64 ((rd_T38 tBL x25_3).f1), .int .i64 0, .int .i64 0]) ?_ 2 _ rfl; refine blk_put (cs := #[.int .i64 ((rd_T38 tBL x25_3).f0), .int .i64 0, .int .i64 0, .int .i64 0]) ?_ 1 _ rfl; refine blk_putU (cs := #[.int .i64 0, .int .i64 0, .int .i64 0, .int .i64 0]) ?_ 0 _ rfl; exact BKBP.out) hb); have n5_ := Aside0.mk (below_step belS hb); clear HO_3 HO_5 HO_23 BKBD BKBP HB; revert n0_ n1_ n2_ n3_ n4_ n5_; intro HO_3 HO_5 HO_23 BKBD BKBP HB; (try clear hb); (try clear hk); obtain ⟨hcz35_0, hcz35_1, hcz35_2, hcz35_3, hfz35_0, hfz35_1, hfz35_2, hfz35_3⟩ := blk4 BKBP.out) | ((with_reducible refine gate_builtin (b := .append) (xs := #[.tmp 33, .tmp 35]) rfl ?_); at_builtin; refine Kd.R_append k38 (w0 := w) w.heap.size rfl (.tmp 33) (.tmp 35) 44 38 (.agg #[(.int .i64 0), (.int .i64 0), (.int .i64 0), (.int .i64 0)]) 32 rfl Try.underlying44 info38 rfl (by decide) (by omega) (.slice Ao33 x5_3.length co33) x5_3 (⟨(rd_T38 tBL x25_3).f0, (rd_T38 tBL x25_3).f1, (rd_T38 tBL x25_3).f2, (rd_T38 tBL x25_3).f3⟩ : S38) [.int .i64 ((rd_T38 tBL x25_3).f0), .int .i64 ((rd_T38 tBL x25_3).f1), .int .i64 ((rd_T38 tBL x25_3).f2), .int .i64 ((rd_T38 tBL x25_3).f3)] (fun k_ => some k_ ≠ (.slice Ao10 x3_1.length co10 : Value).ownBlock ∧ some k_ ≠ (.slice (some adBO) tBL.length co18 : Value).ownBlock ∧ k_ ≠ gbBD ∧ k_ ≠ gbBP) (fun _ => False) rfl rfl ?aP (fun _ hk => hk.elim) ?aF ?aO ?aB ?aS ?aL ?_; (case aP => exact k38_mkM _ _ _ (⟨(rd_T38 tBL x25_3).f0, (rd_T38 tBL x25_3).f1, (rd_T38 tBL x25_3).f2, (rd_T38 tBL x25_3).f3⟩ : S38)); (case aB => exact belS); (case aF => exact (fun k_ hk => ⟨Kd.fresh' (Kd.R_lt (Kd.R_up HO_3.out)) k_ hk, Kd.fresh' (Kd.R_lt (Kd.R_up HO_23.out)) k_ hk, Kd.freshB (g := gbBD) (o := .cells #[.int .i64 a0_0, .int .i64 a0_1, .int .i64 a0_2, .int .i64 a0_3] 38 (0, 0)) (blk_up BKBD.out) k_ hk, Kd.freshB (g := gbBP) (o := .cells #[.int .i64 ((rd_T38 tBL x25_3).f0), .int .i64 ((rd_T38 tBL x25_3).f1), .int .i64 ((rd_T38 tBL x25_3).f2), .int .i64 ((rd_T38 tBL x25_3).f3)] 38 (0, 0)) (blk_up BKBP.out) k_ hk⟩)); (case aO => exact (by (with_reducible repeat (first | apply Kd.R_alloc | apply Kd.R_drewN | apply Kd.R_drew)); exact Kd.R_mono HO_5.out (fun _ hk => ⟨hk.1.1, ⟨hk.1.2.1, ⟨hk.1.2.2, hk.2⟩⟩⟩))); (case aS => exact (below_size belS)); (case aL => have := LMc29.out; omega); intro vBS w36 ho hb hg hat; rw [← NyBR.out] at ho; have n0_ := Aside0.mk (Kd.R_after (ok := (fun k_ => some k_ ≠ (.slice (some adBO) tBL.length co18 : Value).ownBlock ∧ k_ ≠ gbBD ∧ k_ ≠ gbBP)) (by (with_reducible repeat (first | apply Kd.R_alloc | apply Kd.R_drewN | apply Kd.R_drew)); exact Kd.R_mono HO_3.out (fun _ hk => ⟨⟨hk.1.2.1, ⟨hk.1.2.2, hk.2⟩⟩, hk.1.1⟩)) hg hat); have n1_ := Aside0.mk (Kd.R_after (ok := (fun k_ => some k_ ≠ (.slice Ao10 x3_1.length co10 : Value).ownBlock ∧ k_ ≠ gbBD ∧ k_ ≠ gbBP)) (by (with_reducible repeat (first | apply Kd.R_alloc | apply Kd.R_drewN | apply Kd.R_drew)); exact Kd.R_mono HO_23.out (fun _ hk => ⟨⟨hk.1.1, ⟨hk.1.2.2, hk.2⟩⟩, hk.1.2.1⟩)) hg hat); have n2_ := Aside0.mk (blk_grown (g := gbBD) (o := .cells #[.int .i64 a0_0, .int .i64 a0_1, .int .i64 a0_2, .int .i64 a0_3] 38 (0, 0)) (blk_up BKBD.out) hg (Kd.R_away HO_5.out (fun _ hk => hk.1.2.2))); have n3_ := Aside0.mk (blk_grown (g := gbBP) (o := .cells #[.int .i64 ((rd_T38 tBL x25_3).f0), .int .i64 ((rd_T38 tBL x25_3).f1), .int .i64 ((rd_T38 tBL x25_3).f2), .int .i64 ((rd_T38 tBL x25_3).f3)] 38 (0, 0)) (blk_up BKBP.out) hg (Kd.R_away HO_5.out (fun _ hk => hk.2))); have n4_ := Aside0.mk (hb); have n5_ := Aside0.mk (ho); clear HO_3 HO_23 BKBD BKBP HB HO_5; revert n0_ n1_ n2_ n3_ n4_ n5_; intro HO_3 HO_23 BKBD BKBP HB HOBT; clear ho hb hg hat))
              go_roundg k3
              case measure => have := HK1.out; have := HK2.out; have := HK3.out; omega
              case rel => exact ⟨(yBR), (wrap64 (x25_3 + 1)), (by first | rfl | (simp; done) | (simp [*]; done)), H', ⟨by have := HK1.out; have := HK2.out; have := HK3.out; omega⟩, ⟨by (with_reducible repeat (first | apply Kd.R_alloc | apply Kd.R_drewN | apply Kd.R_drew)); exact Kd.R_mono HO_3.out (fun _ hk => ⟨hk.2, ⟨hk.1.1, hk.1.2.1⟩⟩)⟩, ⟨by (with_reducible repeat (first | apply Kd.R_alloc | apply Kd.R_drewN | apply Kd.R_drew)); exact Kd.R_mono HOBT.out (fun _ hk => ⟨hk.1, ⟨hk.2.1, hk.2.2.1⟩⟩)⟩, ⟨by (with_reducible repeat (first | apply Kd.R_alloc | apply Kd.R_drewN | apply Kd.R_drew)); exact Kd.R_mono HO_23.out (fun _ hk => ⟨hk.1.1, ⟨hk.2, hk.1.2.1⟩⟩)⟩, ⟨by (with_reducible repeat (first | refine blk_drewN ?_ _ | refine blk_drew ?_ | refine blk_alloc ?_ _)); exact BKBD.out⟩, ⟨by exact belS⟩⟩
             ·rw [if_neg c29] at H
              exact absurd H (by simp)
           ·rw [if_neg c21] at H
            exact absurd H (by simp)
          ·rw [if_neg c20] at H
           exact absurd H (by simp)
         ·rw [if_neg c19] at H
          have c19b0 : decide (x25_3 < (tBL.length : Int)) = false := decide_eq_false c19
          clear c19
          have H' := Aside0.mk H
          clear H
          go_wp2
          go_roundg k3
          case measure => have := HK1.out; have := HK2.out; have := HK3.out; omega
          case rel => exact ⟨(x5_3), (wrap64 (x6_2 + 1)), (by first | rfl | (simp; done) | (simp [*]; done)), H', ⟨by have := HK1.out; have := HK2.out; have := HK3.out; omega⟩, ⟨by (with_reducible repeat (first | apply Kd.R_alloc | apply Kd.R_drewN | apply Kd.R_drew)); exact Kd.R_mono HO_3.out (fun _ hk => ⟨hk.1, hk.2.2⟩)⟩, ⟨by (with_reducible repeat (first | apply Kd.R_alloc | apply Kd.R_drewN | apply Kd.R_drew)); exact Kd.R_mono HO_5.out (fun _ hk => ⟨hk.1, hk.2.2⟩)⟩, ⟨by (with_reducible repeat (first | refine blk_drewN ?_ _ | refine blk_drew ?_ | refine blk_alloc ?_ _)); exact BKBD.out⟩, ⟨by exact belS⟩⟩
      ·rw [if_neg c14] at H
       have c14b0 : decide (x6_2 ≤ a0_1) = false := decide_eq_false c14
       clear c14
       have H' := Aside0.mk H
       clear H
       obtain ⟨hcz37_0, hcz37_1, hcz37_2, hcz37_3, hfz37_0, hfz37_1, hfz37_2, hfz37_3⟩ := blk4 BKBD.out
       go_wp2
       go_roundg k2
       case measure => have := HK1.out; have := HK2.out; omega
       case rel => exact ⟨(x5_2), (wrap64 (x4_1 + 1)), (by first | rfl | (simp; done) | (simp [*]; done)), H', ⟨by have := HK1.out; have := HK2.out; omega⟩, ⟨by (with_reducible repeat (first | apply Kd.R_alloc | apply Kd.R_drewN | apply Kd.R_drew)); exact Kd.R_mono HO_5.out (fun _ hk => hk.2)⟩, ⟨by (with_reducible repeat (first | refine blk_drewN ?_ _ | refine blk_drew ?_ | refine blk_alloc ?_ _)); exact BKBD.out⟩, ⟨by exact belS⟩⟩

end Go.Proofs.Ytogfijfhjdjhpaa.Pr
