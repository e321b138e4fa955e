-- A text of the machine side, written by wip/gen.py of this repo out of the translation. Not trusted: Lean checks it.
import Derived.Test.YteiceakgiilbgaaF0
namespace Go.Proofs.Yteiceakgiilbgaa.Pr
open Go.RowKit Go.Proofs.YteiceakgiilbgaaW.PrintWords Go.Proofs.YteiceakgiilbgaaW.PrintLast Go.Proofs.YteiceakgiilbgaaW.PrintMore
attribute [local go_sem] max2_int min2_int max_two min_two max_three min_three max_four min_four   -- for this text's walks alone
set_option linter.unusedVariables false
set_option linter.unusedSimpArgs false

/-! ### spec_diSums: function 67 -/
mutual
def spec_diSums.l0 : Nat → Int → Int → List Int → Int → Option (List Int)
 | 0, _, _, _, _ => none
 | k + 1, x0, x1, x5, x6 => if x6 < x0 then (if 0 ≤ (wrap64 ((x5.length : Int) + x1)) then (if (wrap64 ((x5.length : Int) + x1) : Int).toNat ≤ 35184372088832 then (spec_diSums.l1 k x0 x1 x6 (List.replicate (wrap64 ((x5.length : Int) + x1) : Int).toNat 0) x5 (x5.length : Int) 0) else (none)) else (none)) else (some x5)
def spec_diSums.l1 : Nat → Int → Int → Int → List Int → List Int → Int → Int → Option (List Int)
 | 0, _, _, _, _, _, _, _ => none
 | k + 1, x0, x1, x6, x7, x22, x23, x24 => if x24 < x23 then (if 0 ≤ x24 then (if x24 < (x22.length : Int) then (spec_diSums.l2 k x0 x1 x6 x7 x24 (rd x22 x24) 1 x22 x23 x24) else (none)) else (none)) else (spec_diSums.l0 k x0 x1 x7 (wrap64 (x6 + 1)))
def spec_diSums.l2 : Nat → Int → Int → Int → List Int → Int → Int → Int → List Int → Int → Int → Option (List Int)
 | 0, _, _, _, _, _, _, _, _, _, _ => none
 | k + 1, x0, x1, x6, x7, x8, x9, x10, x22, x23, x24 => if x10 ≤ x1 then (if 0 ≤ (wrap64 (x8 + x10)) then (if (wrap64 (x8 + x10)) < (x7.length : Int) then (spec_diSums.l2 k x0 x1 x6 (x7.set ((wrap64 (x8 + x10)) : Int).toNat (wrap64 ((rd x7 (wrap64 (x8 + x10))) + x9))) x8 x9 (wrap64 (x10 + 1)) x22 x23 x24) else (none)) else (none)) else (spec_diSums.l1 k x0 x1 x6 x7 x22 x23 (wrap64 (x24 + 1)))
end
def spec_diSums.f (k : Nat) (a0 : Int) (a1 : Int) : Option (List Int) := spec_diSums.l0 k a0 a1 (([1] : List Int)) 0
set_option maxHeartbeats 8000000 in
set_option maxRecDepth 100000 in
theorem spec_diSums.calls (k : Nat) (a0 : Int) (a1 : Int) (r : List Int) (w : World) (h : spec_diSums.f k a0 a1 = some r) :
  Calls Try.prog 67 #[.int .i64 a0, .int .i64 a1] w fun e w' => ∃ v0_ : Value, e = .returned (v0_) ∧ Kd.R (Kd.int .i64) 3 w' w.heap.size (fun _ => True) v0_ r ∧ Below w.heap.size w w' := by
 have HB := Aside0.mk (Below.refl w.heap.size w)
 have H : (spec_diSums.l0 k a0 a1 (([1] : List Int)) 0) = some r := h
 clear h
 obtain ⟨yBD, hyBD⟩ : ∃ y_ : List Int, y_ = (([1] : List Int)) := ⟨_, rfl⟩
 replace H : (spec_diSums.l0 k a0 a1 yBD 0) = some r := by first | (rw [hyBD]; with_reducible exact H) | (have H2_ := (Option.bind_some _ _).symm.trans H; rw [hyBD]; with_reducible exact H2_) | (have H2_ := (Option.bind_some _ _).symm.trans H; with_reducible exact H2_) | with_reducible exact H | (rw [hyBD]; exact H) | exact H
 have NyBD := Aside0.mk hyBD
 clear hyBD
 have H' := Aside0.mk H
 clear H
 go_enter Try.func67, Try.ntmps67
 go_wp2_with (first | ((with_reducible refine gate_dst (N := 11) rfl ?_); refine Kd.R_lit (Kd.int .i64) _ 3 ?hg (N := 11) ?hd (xs := ([1] : List Int)) (inner := [.int .i64 1]) (ok := fun _ => True) (okp := fun _ => True) ?hr ?hp (fun _ hk => hk) trivial (Below.refl _ _) (Nat.le_refl _) (by simp) ?_; (case hd => rfl); (case hg => rfl); (case hr => first | (go_simp; done) | (go_simp; rfl)); (case hp => exact (Reps.one (show Kd.M (Kd.int .i64) _ _ _ 1 [.int .i64 1] from rfl) (Reps.none _ _))); intro vBE w3 ho4 hb hg_ hnew_; clear hg_ hnew_; (first | rw [← NyBD.out] at ho4 | (simp only [Int.reduceToNat] at ho4; rw [← NyBD.out] at ho4)); have n0_ := Aside0.mk (Kd.R_lower ho4 (below_size belS)); have n1_ := Aside0.mk (below_step belS hb); clear HB; revert n0_ n1_; intro HOBF HB; clear hb ho4))
 go_loopg [5, 6] k (fun kq v5 v6 w' => ∃ (x5_1 : List Int) (x6_1 : Int), v6 = .int .i64 x6_1 ∧ Aside0 (spec_diSums.l0 kq a0 a1 x5_1 x6_1 = some r) ∧ Aside0 (kq ≤ k) ∧ Aside0 (Kd.R (Kd.int .i64) 3 w' w.heap.size (fun _ => True) v5 x5_1) ∧ Aside0 (Below w.heap.size w w'))
 case atStart => exact ⟨(yBD), (0), (by first | rfl | (simp; done) | (simp [*]; done)), H', ⟨Nat.le_refl _⟩, ⟨by (with_reducible repeat (first | apply Kd.R_alloc | apply Kd.R_drewN | apply Kd.R_drew)); exact HOBF.out⟩, ⟨by exact belS⟩⟩
 case round =>
  clear H'
  try clear p2
  obtain ⟨x5_1, x6_1, rfl, HA, HK1, HO_5, HB⟩ := hrel
  cases gk with
  | zero => exact absurd HA.out (by simp [spec_diSums.l0])
  | succ k1 =>
   have H := HA.out
   clear HA
   simp only [spec_diSums.l0] at H
   by_cases c5 : x6_1 < a0
   ·rw [if_pos c5] at H
    have c5b0 : decide (x6_1 < a0) = true := decide_eq_true c5
    clear c5
    obtain ⟨ji6, hji6⟩ : ∃ j_ : Int, (wrap64 ((x5_1.length : Int) + a1)) = j_ := ⟨_, rfl⟩
    replace H : (if 0 ≤ (ji6) then (if (ji6 : Int).toNat ≤ 35184372088832 then (spec_diSums.l1 k1 a0 a1 x6_1 (List.replicate (ji6 : Int).toNat 0) x5_1 (x5_1.length : Int) 0) else (none)) else (none)) = some r := by first | (rw [hji6] at H; exact H) | (simp only [hji6] at H ⊢; exact H)
    have hji6w : (IntKind.i64.wrap ((x5_1.length : Int) + a1)) = ji6 := (i64_w _).trans hji6
    by_cases c7 : 0 ≤ (ji6)
    ·rw [if_pos c7] at H
     have c7b0 := eq_true c7
     have c7b1 : decide (0 ≤ (ji6)) = true := decide_eq_true c7
     clear c7
     by_cases c8 : (ji6 : Int).toNat ≤ 35184372088832
     ·rw [if_pos c8] at H
      have c8b0 := eq_true c8
      have c8b1 : decide ((ji6 : Int).toNat ≤ 35184372088832) = true := decide_eq_true c8
      clear c8
      obtain ⟨yBG, hyBG⟩ : ∃ y_ : List Int, y_ = (List.replicate (ji6 : Int).toNat 0) := ⟨_, rfl⟩
      replace H : (spec_diSums.l1 k1 a0 a1 x6_1 yBG x5_1 (x5_1.length : Int) 0) = some r := by first | (rw [hyBG]; with_reducible exact H) | (have H2_ := (Option.bind_some _ _).symm.trans H; rw [hyBG]; with_reducible exact H2_) | (have H2_ := (Option.bind_some _ _).symm.trans H; with_reducible exact H2_) | with_reducible exact H | (rw [hyBG]; exact H) | exact H
      have NyBG := Aside0.mk hyBG
      clear hyBG
      have H' := Aside0.mk H
      clear H
      obtain ⟨Ao9, co9, eo9⟩ := Kd.R_slice HO_5.out
      subst eo9
      go_wp2_with (first | ((with_reducible refine gate_dst (N := 21) rfl ?_); refine Kd.R_make (Kd.int .i64) _ 3 rfl (N := 21) rfl 32 _ _ rfl ji6 rfl rfl Try.underlying32 (.int .i64 0) 8 info3 rfl (by decide) (by omega) 0 (ok := fun _ => True) (okp := fun _ => True) rfl (fun _ hk => hk) trivial (of_decide_eq_true (by first | (with_reducible assumption) | assumption)) (Nat.le_trans (Nat.mul_le_mul_right _ (of_decide_eq_true (by first | (with_reducible assumption) | assumption) : ji6.toNat ≤ 35184372088832)) (by omega)) (Below.refl _ _) (Nat.le_refl _) ?_; intro vBH w10 ho11 hb hg_ hnew_; clear hg_ hnew_; (first | rw [← NyBG.out] at ho11 | (simp only [Int.reduceToNat] at ho11; rw [← NyBG.out] at ho11)); have n0_ := Aside0.mk (Kd.R_elder' (Kd.R_up HO_5.out) (Kd.R_base ho11) hb); have n1_ := Aside0.mk (Kd.R_lower (Kd.R_new' ho11 (Kd.R_lt (Kd.R_up HO_5.out))) (below_size belS)); have n2_ := Aside0.mk (below_step belS hb); clear HO_5 HB; revert n0_ n1_ n2_; intro HO_5 HOBI HB; clear hb ho11))
      go_loopg [24] k1 (fun kq v24 w' => ∃ (x7_2 : List Int) (x24_2 : Int), v24 = .int .i64 x24_2 ∧ Aside0 (spec_diSums.l1 kq a0 a1 x6_1 x7_2 x5_1 (x5_1.length : Int) x24_2 = some r) ∧ Aside0 (kq ≤ k1) ∧ Aside0 (Kd.R (Kd.int .i64) 3 w' w.heap.size (fun k_ => some k_ ≠ ((.slice Ao9 x5_1.length co9) : Value).ownBlock) vBH x7_2) ∧ Aside0 (Kd.R (Kd.int .i64) 3 w' w.heap.size (fun k_ => some k_ ≠ (vBH : Value).ownBlock) (.slice Ao9 x5_1.length co9) x5_1) ∧ Aside0 (Below w.heap.size w w'))
      case atStart => exact ⟨(yBG), (0), (by first | rfl | (simp; done) | (simp [*]; done)), H', ⟨Nat.le_refl _⟩, ⟨by (with_reducible repeat (first | apply Kd.R_alloc | apply Kd.R_drewN | apply Kd.R_drew)); exact Kd.R_mono HOBI.out (fun _ hk => hk.2)⟩, ⟨by (with_reducible repeat (first | apply Kd.R_alloc | apply Kd.R_drewN | apply Kd.R_drew)); exact Kd.R_mono HO_5.out (fun _ hk => hk.2)⟩, ⟨by exact belS⟩⟩
      case round =>
       clear H'
       try clear p2
       try clear c5
       try clear c5b0
       try clear c6
       try clear p6
       try clear c7
       try clear c7b0
       try clear c7b1
       try clear c8
       try clear c8b0
       try clear c8b1
       try clear p2
       obtain ⟨x7_2, x24_2, rfl, HA, HK2, HO_7, HO_22, HB⟩ := hrel
       cases gk with
       | zero => exact absurd HA.out (by simp [spec_diSums.l1])
       | succ k2 =>
        have H := HA.out
        clear HA
        simp only [spec_diSums.l1] at H
        by_cases c12 : x24_2 < (x5_1.length : Int)
        ·rw [if_pos c12] at H
         have c12b0 : decide (x24_2 < (x5_1.length : Int)) = true := decide_eq_true c12
         clear c12
         by_cases c13 : 0 ≤ x24_2
         ·rw [if_pos c13] at H
          have c13b0 : decide (0 ≤ x24_2) = true := decide_eq_true c13
          clear c13
          by_cases c14 : x24_2 < (x5_1.length : Int)
          ·rw [if_pos c14] at H
           have c14b0 : decide (x24_2 < (x5_1.length : Int)) = true := decide_eq_true c14
           clear c14
           have H' := Aside0.mk H
           clear H
           have pBJ : 0 ≤ (x24_2 : Int) := of_decide_eq_true (by first | (with_reducible assumption) | assumption)
           have qBJ : x24_2 < (x5_1.length : Int) := of_decide_eq_true (by first | (with_reducible assumption) | assumption)
           obtain ⟨adBJ, eBJ, hxBJ_0⟩ := Kd.at_int (Kd.R_reads' HO_22.out).2.2 x24_2 pBJ qBJ
           cases eBJ
           replace pBJ := eq_true pBJ
           replace qBJ := eq_true qBJ
           go_wp2
           go_loopg [10] k2 (fun kq v10 w' => ∃ (x7_3 : List Int) (x10_3 : Int), v10 = .int .i64 x10_3 ∧ Aside0 (spec_diSums.l2 kq a0 a1 x6_1 x7_3 x24_2 (rd x5_1 x24_2) x10_3 x5_1 (x5_1.length : Int) x24_2 = some r) ∧ Aside0 (kq ≤ k2) ∧ Aside0 (Kd.R (Kd.int .i64) 3 w' w.heap.size (fun k_ => some k_ ≠ ((.slice (some adBJ) x5_1.length co9) : Value).ownBlock) vBH x7_3) ∧ Aside0 (Kd.R (Kd.int .i64) 3 w' w.heap.size (fun k_ => some k_ ≠ (vBH : Value).ownBlock) (.slice (some adBJ) x5_1.length co9) x5_1) ∧ Aside0 (Below w.heap.size w w'))
           case atStart => exact ⟨(x7_2), (1), (by first | rfl | (simp; done) | (simp [*]; done)), H', ⟨Nat.le_refl _⟩, ⟨by (with_reducible repeat (first | apply Kd.R_alloc | apply Kd.R_drewN | apply Kd.R_drew)); exact HO_7.out⟩, ⟨by (with_reducible repeat (first | apply Kd.R_alloc | apply Kd.R_drewN | apply Kd.R_drew)); exact HO_22.out⟩, ⟨by exact belS⟩⟩
           case round =>
            clear H'
            try clear c1
            try clear p1
            try clear q1
            try clear hx1
            try clear p2
            try clear c5
            try clear c5b0
            try clear c6
            try clear p6
            try clear c7
            try clear c7b0
            try clear c7b1
            try clear c8
            try clear c8b0
            try clear c8b1
            try clear c12
            try clear c12b0
            try clear c13
            try clear c13b0
            try clear p13
            try clear q13
            try clear hx13
            try clear c14
            try clear c14b0
            try clear hxBJ_0
            try clear pBJ
            try clear p2
            try clear p6
            try clear qBJ
            obtain ⟨x7_3, x10_3, rfl, HA, HK3, HO_7, HO_22, HB⟩ := hrel
            cases gk with
            | zero => exact absurd HA.out (by simp [spec_diSums.l2])
            | succ k3 =>
             have H := HA.out
             clear HA
             simp only [spec_diSums.l2] at H
             by_cases c15 : x10_3 ≤ a1
             ·rw [if_pos c15] at H
              have c15b0 : decide (x10_3 ≤ a1) = true := decide_eq_true c15
              clear c15
              obtain ⟨ji16, hji16⟩ : ∃ j_ : Int, (wrap64 (x24_2 + x10_3)) = j_ := ⟨_, rfl⟩
              replace H : (if 0 ≤ (ji16) then (if (ji16) < (x7_3.length : Int) then (spec_diSums.l2 k3 a0 a1 x6_1 (x7_3.set ((ji16) : Int).toNat (wrap64 ((rd x7_3 (ji16)) + (rd x5_1 x24_2)))) x24_2 (rd x5_1 x24_2) (wrap64 (x10_3 + 1)) x5_1 (x5_1.length : Int) x24_2) else (none)) else (none)) = some r := by first | (rw [hji16] at H; exact H) | (simp only [hji16] at H ⊢; exact H)
              have hji16w : (IntKind.i64.wrap (x24_2 + x10_3)) = ji16 := (i64_w _).trans hji16
              by_cases c17 : 0 ≤ (ji16)
              ·rw [if_pos c17] at H
               have c17b0 : decide (0 ≤ (ji16)) = true := decide_eq_true c17
               clear c17
               by_cases c18 : (ji16) < (x7_3.length : Int)
               ·rw [if_pos c18] at H
                have c18b0 : decide ((ji16) < (x7_3.length : Int)) = true := decide_eq_true c18
                clear c18
                obtain ⟨yBL, hyBL⟩ : ∃ y_ : List Int, y_ = (x7_3.set ((ji16) : Int).toNat (wrap64 ((rd x7_3 (ji16)) + (rd x5_1 x24_2)))) := ⟨_, rfl⟩
                replace H : (spec_diSums.l2 k3 a0 a1 x6_1 yBL x24_2 (rd x5_1 x24_2) (wrap64 (x10_3 + 1)) x5_1 (x5_1.length : Int) x24_2) = some r := by first | (rw [hyBL]; with_reducible exact H) | (have H2_ := (Option.bind_some _ _).symm.trans H; rw [hyBL]; with_reducible exact H2_) | (have H2_ := (Option.bind_some _ _).symm.trans H; with_reducible exact H2_) | with_reducible exact H | (rw [hyBL]; exact H) | exact H
                have NyBL := Aside0.mk hyBL
                clear hyBL
                have H' := Aside0.mk H
                clear H
                obtain ⟨Ao20, co20, eo20⟩ := Kd.R_slice HO_7.out
                subst eo20
                have pBK : 0 ≤ ((ji16) : Int) := of_decide_eq_true (by first | (with_reducible assumption) | assumption)
                have qBK : (ji16) < (x7_3.length : Int) := of_decide_eq_true (by first | (with_reducible assumption) | assumption)
                obtain ⟨adBK, eBK, hxBK_0⟩ := Kd.at_int (Kd.R_reads' HO_7.out).2.2 (ji16) pBK qBK
                cases eBK
                replace pBK := eq_true pBK
                replace qBK := eq_true qBK
                have p19 : 0 ≤ ((ji16) : Int) := of_decide_eq_true (by first | (with_reducible assumption) | assumption)
                have q19 : ((ji16) : Int) < ((x7_3.length : Int) : Int) := of_decide_eq_true (by first | (with_reducible assumption) | assumption)
                obtain ⟨go19, co19, eo19, gb19, gl19, cl19, HG19⟩ := Kd.R_form HO_7.out (by omega)
                (first | cases eo19 | (injection eo19 with ea_ en_ ec_; (first | subst ea_ | (injection ea_ with ea_; subst ea_)); subst ec_; clear en_))
                have GB19 := Aside0.mk gb19
                have GG19 := Aside0.mk HG19
                clear gb19 gl19 HG19
                (first | simp only [add_plain] at hxBK_0 | skip)
                obtain ⟨hx19_0, hf19_0⟩ := Kd.R_celln 0 HO_7.out ((ji16) : Int) p19 q19
                replace p19 := eq_true p19
                replace q19 := eq_true q19
                have HP21 := Kd.R_putg HO_7.out ((ji16) : Int) (wrap64 ((rd x7_3 (ji16)) + (rd x5_1 x24_2)))
                go_wp2_with (first | ((with_reducible refine gate_store (t := 3) (p := 42) rfl ?_); refine store_event (t := 3) (p := 42) (v := ?vo_w22) (w1 := (wr.setCell ⟨go19, ((ji16) : Int).toNat, none⟩ (.int .i64 (wrap64 ((rd x7_3 (ji16)) + (rd x5_1 x24_2)))))) ?hg ?ho ?hn ?hr ?_; (case ho => rfl); (case hg => rfl); (case hn => rfl); (case hr => first | (go_simp; done) | (go_simp; rfl)); intro w22 hw; have hg : wr.grownBy w22 (some go19) := (by rw [hw]; exact HP21.2); have hp_ : Kd.R (Kd.int .i64) 3 w22 w.heap.size (fun k_ => some k_ ≠ (.slice (some adBJ) x5_1.length co9 : Value).ownBlock) (.slice (some ⟨go19, 0, none⟩) x7_3.length co20) yBL := (by rw [hw, NyBL.out]; exact HP21.1); clear HP21; have n0_ := Aside0.mk (hp_); have n1_ := Aside0.mk (Kd.R_after (v := (.slice (some ⟨go19, 0, none⟩) x7_3.length co20)) (v1 := (.slice (some ⟨go19, 0, none⟩) x7_3.length co20)) (ok := (fun _ => True)) (by (with_reducible repeat (first | apply Kd.R_alloc | apply Kd.R_drewN | apply Kd.R_drew)); exact Kd.R_mono HO_22.out (fun _ hk => ⟨trivial, hk⟩)) hg (.inl rfl)); have n2_ := Aside0.mk ((by rw [hw]; exact below_set (HB.out) GB19.out : Below w.heap.size w w22)); clear HO_7 HO_22 HB; revert n0_ n1_ n2_; intro HO_7 HO_22 HB; clear hg hw hp_))
                go_roundg k3
                case measure => have := HK1.out; have := HK2.out; have := HK3.out; omega
                case rel => exact ⟨(yBL), (wrap64 (x10_3 + 1)), (by first | rfl | (simp; done) | (simp [*]; done)), H', ⟨by have := HK1.out; have := HK2.out; have := HK3.out; omega⟩, ⟨by (with_reducible repeat (first | apply Kd.R_alloc | apply Kd.R_drewN | apply Kd.R_drew)); exact HO_7.out⟩, ⟨by (with_reducible repeat (first | apply Kd.R_alloc | apply Kd.R_drewN | apply Kd.R_drew)); exact Kd.R_mono HO_22.out (fun _ hk => hk.2)⟩, ⟨by exact belS⟩⟩
               ·rw [if_neg c18] at H
                exact absurd H (by simp)
              ·rw [if_neg c17] at H
               exact absurd H (by simp)
             ·rw [if_neg c15] at H
              have c15b0 : decide (x10_3 ≤ a1) = false := decide_eq_false c15
              clear c15
              have H' := Aside0.mk H
              clear H
              go_wp2
              go_roundg k3
              case measure => have := HK1.out; have := HK2.out; have := HK3.out; omega
              case rel => exact ⟨(x7_3), (wrap64 (x24_2 + 1)), (by first | rfl | (simp; done) | (simp [*]; done)), H', ⟨by have := HK1.out; have := HK2.out; have := HK3.out; omega⟩, ⟨by (with_reducible repeat (first | apply Kd.R_alloc | apply Kd.R_drewN | apply Kd.R_drew)); exact HO_7.out⟩, ⟨by (with_reducible repeat (first | apply Kd.R_alloc | apply Kd.R_drewN | apply Kd.R_drew)); exact HO_22.out⟩, ⟨by exact belS⟩⟩
          ·rw [if_neg c14] at H
           exact absurd H (by simp)
         ·rw [if_neg c13] at H
          exact absurd H (by simp)
        ·rw [if_neg c12] at H
         have c12b0 : decide (x24_2 < (x5_1.length : Int)) = false := decide_eq_false c12
         clear c12
         have H' := Aside0.mk H
         clear H
         go_wp2
         go_roundg k2
         case measure => have := HK1.out; have := HK2.out; omega
         case rel => exact ⟨(x7_2), (wrap64 (x6_1 + 1)), (by first | rfl | (simp; done) | (simp [*]; done)), H', ⟨by have := HK1.out; have := HK2.out; omega⟩, ⟨by (with_reducible repeat (first | apply Kd.R_alloc | apply Kd.R_drewN | apply Kd.R_drew)); exact Kd.R_mono HO_7.out (fun _ hk => trivial)⟩, ⟨by exact belS⟩⟩
     ·rw [if_neg c8] at H
      exact absurd H (by simp)
    ·rw [if_neg c7] at H
     exact absurd H (by simp)
   ·rw [if_neg c5] at H
    have c5b0 : decide (x6_1 < a0) = false := decide_eq_false c5
    clear c5
    obtain rfl := Option.some.inj H
    go_wp2
    go_ret
    exact ⟨_, by first | rfl | (simp [errW_none, errW_some] <;> rfl) | (simp [*, errW_none, errW_some] <;> rfl), by (with_reducible repeat (first | apply Kd.R_alloc | apply Kd.R_drewN | apply Kd.R_drew)); exact HO_5.out, by exact belS⟩

end Go.Proofs.Yteiceakgiilbgaa.Pr
