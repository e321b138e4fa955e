-- A text of the machine side, written by wip/gen.py of this repo out of the translation. Not trusted: Lean checks it.
import Derived.Test.YteiceakgiilbgaaF0
import Derived.Test.YteiceakgiilbgaaFImplChoose
import Derived.Test.YteiceakgiilbgaaFWaysRound
namespace Go.Proofs.Yteiceakgiilbgaa.Pr
open Go.RowKit Go.Proofs.YteiceakgiilbgaaW.PrintWords Go.Proofs.YteiceakgiilbgaaW.PrintLast Go.Proofs.YteiceakgiilbgaaW.PrintMore
attribute [local go_sem] max2_int min2_int max_two min_two max_three min_three max_four min_four   -- for this text's walks alone
set_option linter.unusedVariables false
set_option linter.unusedSimpArgs false

/-! ### impl_ways: function 68 -/
mutual
def impl_ways.l0 : Nat → Int → Int → Int → List (List Int) → Int → Int → Option (List Int)
 | 0, _, _, _, _, _, _ => none
 | k + 1, x0, x1, x2, x7, x22, x23 => if x23 < x22 then (if 0 ≤ (wrap64 ((wrap64 (x0 * x1)) + 1)) then (if (wrap64 ((wrap64 (x0 * x1)) + 1) : Int).toNat ≤ 35184372088832 then (if 0 ≤ x23 then (if x23 < (x7.length : Int) then (impl_ways.l0 k x0 x1 x2 (x7.set (x23 : Int).toNat (List.replicate (wrap64 ((wrap64 (x0 * x1)) + 1) : Int).toNat 0)) x22 (wrap64 (x23 + 1))) else (none)) else (none)) else (none)) else (none)) else (if 0 < (x7.length : Int) then (if 0 < ((rd_L1 x7 0).length : Int) then (impl_ways.l1 k x0 x1 x2 (x7.set (0 : Int).toNat ((rd_L1 x7 0).set (0 : Int).toNat 1)) x1) else (none)) else (none))
def impl_ways.l1 : Nat → Int → Int → Int → List (List Int) → Int → Option (List Int)
 | 0, _, _, _, _, _ => none
 | k + 1, x0, x1, x2, x7, x9 => if x9 ≥ 1 then ((waysRound.f k x0 x1 x2 x9 x7).bind fun tMM => (impl_ways.l1 k x0 x1 x2 tMM (wrap64 (x9 - 1)))) else (if 0 ≤ x0 then (if x0 < (x7.length : Int) then (some (rd_L1 x7 x0)) else (none)) else (none))
end
def impl_ways.f (k : Nat) (a0 : Int) (a1 : Int) (a2 : Int) : Option (List Int) := if 0 ≤ (wrap64 (a0 + 1)) then (if (wrap64 (a0 + 1) : Int).toNat ≤ 11728124029610 then ((some (List.replicate (wrap64 (a0 + 1) : Int).toNat [] : List (List Int))).bind fun yBD => (impl_ways.l0 k a0 a1 a2 yBD (yBD.length : Int) 0)) else (none)) else (none)
set_option maxHeartbeats 8000000 in
set_option maxRecDepth 100000 in
theorem impl_ways.calls (k : Nat) (a0 : Int) (a1 : Int) (a2 : Int) (r : List Int) (w : World) (h : impl_ways.f k a0 a1 a2 = some r) :
  Calls Try.prog 68 #[.int .i64 a0, .int .i64 a1, .int .i64 a2] w fun e w' => ∃ v0_ : Value, e = .returned (v0_) ∧ Kd.R (Kd.int .i64) 3 w' w.heap.size (fun _ => True) v0_ r ∧ Below w.heap.size w w' := by
 have HB := Aside0.mk (Below.refl w.heap.size w)
 have H : (if 0 ≤ (wrap64 (a0 + 1)) then (if (wrap64 (a0 + 1) : Int).toNat ≤ 11728124029610 then ((some (List.replicate (wrap64 (a0 + 1) : Int).toNat [] : List (List Int))).bind fun yBD => (impl_ways.l0 k a0 a1 a2 yBD (yBD.length : Int) 0)) else (none)) else (none)) = some r := h
 clear h
 try clear hji6w
 try clear hji6
 obtain ⟨ji4, hji4⟩ : ∃ j_ : Int, (wrap64 (a0 + 1)) = j_ := ⟨_, rfl⟩
 replace H : (if 0 ≤ (ji4) then (if (ji4 : Int).toNat ≤ 11728124029610 then ((some (List.replicate (ji4 : Int).toNat [] : List (List Int))).bind fun yBD => (impl_ways.l0 k a0 a1 a2 yBD (yBD.length : Int) 0)) else (none)) else (none)) = some r := by first | (rw [hji4] at H; exact H) | (simp only [hji4] at H ⊢; exact H)
 have hji4w : (IntKind.i64.wrap (a0 + 1)) = ji4 := (i64_w _).trans hji4
 by_cases c5 : 0 ≤ (ji4)
 ·rw [if_pos c5] at H
  have c5b0 := eq_true c5
  have c5b1 : decide (0 ≤ (ji4)) = true := decide_eq_true c5
  clear c5
  by_cases c6 : (ji4 : Int).toNat ≤ 11728124029610
  ·rw [if_pos c6] at H
   have c6b0 := eq_true c6
   have c6b1 : decide ((ji4 : Int).toNat ≤ 11728124029610) = true := decide_eq_true c6
   clear c6
   obtain ⟨yBD, hyBD⟩ : ∃ y_ : List (List Int), y_ = (List.replicate (ji4 : Int).toNat []) := ⟨_, rfl⟩
   replace H : (impl_ways.l0 k a0 a1 a2 yBD (yBD.length : Int) 0) = some r := by first | (rw [hyBD]; with_reducible exact H) | (have H2_ := (Option.bind_some _ _).symm.trans H; rw [hyBD]; with_reducible exact H2_) | (have H2_ := (Option.bind_some _ _).symm.trans H; with_reducible exact H2_) | with_reducible exact H | (rw [hyBD]; exact H) | exact H
   have NyBD := Aside0.mk hyBD
   clear hyBD
   have H' := Aside0.mk H
   clear H
   go_enter Try.func68, Try.ntmps68
   go_wp2_with (first | ((with_reducible refine gate_dst (N := 20) rfl ?_); refine Kd.S_make (Kd.slice 3 (Kd.int .i64)) _ 32 rfl (N := 20) rfl 63 _ _ rfl ji4 rfl rfl Try.underlying63 (.slice none 0 0) 24 info32 rfl (by decide) (by omega) [] (ok := fun _ => True) (okp := fun _ => True) ⟨_, rfl, Kd.R_nil _ _ _ _ _⟩ (fun _ hk => hk) trivial (of_decide_eq_true (by first | (with_reducible assumption) | assumption)) (Nat.le_trans (Nat.mul_le_mul_right _ (of_decide_eq_true (by first | (with_reducible assumption) | assumption) : ji4.toNat ≤ 11728124029610)) (by omega)) (Below.refl _ _) (Nat.le_refl _) ?_; intro vBE w7 ho8 hb hg_ hnew_; clear hg_ hnew_; (first | rw [← NyBD.out] at ho8 | (simp only [Int.reduceToNat] at ho8; rw [← NyBD.out] at ho8)); have n0_ := Aside0.mk (Kd.S_lower ho8 (below_size belS)); have n1_ := Aside0.mk (below_step belS hb); clear HB; revert n0_ n1_; intro HOBF HB; clear hb ho8; obtain ⟨Ao9, co9, eo9⟩ := Kd.S_slice HOBF.out; subst eo9))
   go_loopg [23] k (fun kq v23 w' => ∃ (x7_1 : List (List Int)) (x23_1 : Int), v23 = .int .i64 x23_1 ∧ Aside0 (impl_ways.l0 kq a0 a1 a2 x7_1 (yBD.length : Int) x23_1 = some r) ∧ Aside0 (kq ≤ k) ∧ Aside0 (Kd.S (Kd.slice 3 (Kd.int .i64)) 32 w' w.heap.size (fun _ => True) (.slice Ao9 yBD.length co9) x7_1) ∧ Aside0 (Below w.heap.size w w'))
   case atStart => exact ⟨(yBD), (0), (by first | rfl | (simp; done) | (simp [*]; done)), H', ⟨Nat.le_refl _⟩, ⟨by (with_reducible repeat (first | apply Kd.S_alloc | apply Kd.S_drewN | apply Kd.S_drew)); exact HOBF.out⟩, ⟨by exact belS⟩⟩
   case round =>
    clear H'
    try clear p2
    try clear c5
    try clear c5b0
    try clear c5b1
    try clear c6
    try clear c6b0
    try clear c6b1
    try clear p6
    obtain ⟨x7_1, x23_1, rfl, HA, MK1, HO_7, HB⟩ := hrel
    have hl7_1 := (Kd.S_reads' HO_7.out).1
    rw [hl7_1] at HO_7
    (try simp only [hl7_1])
    cases gk with
    | zero => exact absurd HA.out (by simp [impl_ways.l0])
    | succ m1 =>
     have H := HA.out
     clear HA
     simp only [impl_ways.l0] at H
     by_cases c10 : x23_1 < (yBD.length : Int)
     ·rw [if_pos c10] at H
      have c10b0 : decide (x23_1 < (yBD.length : Int)) = true := decide_eq_true c10
      try (have c10b9 : decide (x23_1 < (x10_1.length : Int)) = true := by rw [← hl10_1]; exact c10b0)
      try (have c10b9 : decide (x23_1 < (x7_1.length : Int)) = true := by rw [← hl7_1]; exact c10b0)
      clear c10
      try clear hji13w
      try clear hji13
      obtain ⟨ji11, hji11⟩ : ∃ j_ : Int, (wrap64 ((wrap64 (a0 * a1)) + 1)) = j_ := ⟨_, rfl⟩
      replace H : (if 0 ≤ (ji11) then (if (ji11 : Int).toNat ≤ 35184372088832 then (if 0 ≤ x23_1 then (if x23_1 < (x7_1.length : Int) then (impl_ways.l0 m1 a0 a1 a2 (x7_1.set (x23_1 : Int).toNat (List.replicate (ji11 : Int).toNat 0)) (yBD.length : Int) (wrap64 (x23_1 + 1))) else (none)) else (none)) else (none)) else (none)) = some r := by first | (rw [hji11] at H; exact H) | (simp only [hji11] at H ⊢; exact H)
      have hji11w : (IntKind.i64.wrap ((wrap64 (a0 * a1)) + 1)) = ji11 := (i64_w _).trans hji11
      by_cases c12 : 0 ≤ (ji11)
      ·rw [if_pos c12] at H
       have c12b0 := eq_true c12
       have c12b1 : decide (0 ≤ (ji11)) = true := decide_eq_true c12
       clear c12
       by_cases c13 : (ji11 : Int).toNat ≤ 35184372088832
       ·rw [if_pos c13] at H
        have c13b0 := eq_true c13
        have c13b1 : decide ((ji11 : Int).toNat ≤ 35184372088832) = true := decide_eq_true c13
        clear c13
        obtain ⟨yBG, hyBG⟩ : ∃ y_ : List Int, y_ = (List.replicate (ji11 : Int).toNat 0) := ⟨_, rfl⟩
        replace H : (if 0 ≤ x23_1 then (if x23_1 < (x7_1.length : Int) then (impl_ways.l0 m1 a0 a1 a2 (x7_1.set (x23_1 : Int).toNat yBG) (yBD.length : Int) (wrap64 (x23_1 + 1))) else (none)) else (none)) = some r := by first | (rw [hyBG]; with_reducible exact H) | (have H2_ := (Option.bind_some _ _).symm.trans H; rw [hyBG]; with_reducible exact H2_) | (have H2_ := (Option.bind_some _ _).symm.trans H; with_reducible exact H2_) | with_reducible exact H | (rw [hyBG]; exact H) | exact H
        have NyBG := Aside0.mk hyBG
        clear hyBG
        by_cases c14 : 0 ≤ x23_1
        ·rw [if_pos c14] at H
         have c14b0 : decide (0 ≤ x23_1) = true := decide_eq_true c14
         clear c14
         by_cases c15 : x23_1 < (x7_1.length : Int)
         ·rw [if_pos c15] at H
          have c15b0 : decide (x23_1 < (x7_1.length : Int)) = true := decide_eq_true c15
          clear c15
          obtain ⟨yBJ, hyBJ⟩ : ∃ y_ : List (List Int), y_ = (x7_1.set (x23_1 : Int).toNat yBG) := ⟨_, rfl⟩
          replace H : (impl_ways.l0 m1 a0 a1 a2 yBJ (yBD.length : Int) (wrap64 (x23_1 + 1))) = some r := by first | (rw [hyBJ]; with_reducible exact H) | (have H2_ := (Option.bind_some _ _).symm.trans H; rw [hyBJ]; with_reducible exact H2_) | (have H2_ := (Option.bind_some _ _).symm.trans H; with_reducible exact H2_) | with_reducible exact H | (rw [hyBJ]; exact H) | exact H
          have NyBJ := Aside0.mk hyBJ
          clear hyBJ
          have H' := Aside0.mk H
          clear H
          go_wp2_with (first | ((with_reducible refine gate_dst (N := 32) rfl ?_); refine Kd.R_make (Kd.int .i64) _ 3 rfl (N := 32) rfl 32 _ _ rfl ji11 rfl rfl Try.underlying32 (.int .i64 0) 8 info3 rfl (by decide) (by omega) 0 (ok := fun _ => True) (okp := fun _ => True) rfl (fun _ hk => hk) trivial (of_decide_eq_true (by first | (with_reducible assumption) | assumption)) (Nat.le_trans (Nat.mul_le_mul_right _ (of_decide_eq_true (by first | (with_reducible assumption) | assumption) : ji11.toNat ≤ 35184372088832)) (by omega)) (Below.refl _ _) (Nat.le_refl _) ?_; intro vBH w17 ho18 hb hg_ hnew_; clear hg_ hnew_; (first | rw [← NyBG.out] at ho18 | (simp only [Int.reduceToNat] at ho18; rw [← NyBG.out] at ho18)); have n0_ := Aside0.mk (Kd.S_elder' (by (with_reducible repeat (first | apply Kd.S_alloc | apply Kd.S_drewN | apply Kd.S_drew)); exact HO_7.out) (Kd.R_base ho18) hb); have n1_ := Aside0.mk (Kd.R_lower ho18 (below_size belS)); have n2_ := Aside0.mk (below_step belS hb); clear HO_7 HB; revert n0_ n1_ n2_; intro HO_7 HOBI HB; clear hb ho18; have p16 : 0 ≤ (x23_1 : Int) := of_decide_eq_true (by first | (with_reducible assumption) | assumption); have q16 : (x23_1 : Int) < ((x7_1.length : Int) : Int) := of_decide_eq_true (by first | (with_reducible assumption) | assumption); obtain ⟨go16, co16, eo16, gb16, gl16, cl16, HG16⟩ := Kd.S_form HO_7.out (by omega); (first | cases eo16 | (injection eo16 with ea_ en_ ec_; (first | subst ea_ | (injection ea_ with ea_; subst ea_)); subst ec_; clear en_)); have GB16 := Aside0.mk gb16; have GG16 := Aside0.mk HG16; clear gb16 gl16 HG16; obtain ⟨_, ce16, hcl16, hM16, hcc16, hfr16, _, _⟩ := Kd.S_elem HO_7.out [] (x23_1 : Int) p16 q16; obtain ⟨ve16_0, rfl, ge16_0⟩ := hM16; have hx16_0 := hcc16 0 _ rfl; have hf16_0 := hfr16 0; (try simp only [show ((Kd.slice 3 (Kd.int .i64))).sz = 1 from rfl, Nat.mul_one, Nat.add_zero] at hx16_0); (try simp only [show ((Kd.slice 3 (Kd.int .i64))).sz = 1 from rfl, Nat.mul_one, Nat.add_zero] at hf16_0); clear hcl16 hcc16 hfr16; replace p16 := eq_true p16; replace q16 := eq_true q16; have n_ := Aside0.mk (Kd.S_mono (ok' := (fun k_ => some k_ ≠ (vBH : Value).ownBlock)) HO_7.out (fun k_ hk => hk.2)); clear HO_7; have HO_7 := n_; clear n_; have HX19 := Aside0.mk (show Kd.S (Kd.slice 3 (Kd.int .i64)) 32 w17 w.heap.size (fun k_ => ((fun _ => True)) k_ ∧ ¬ ((fun k_ => some k_ = (vBH : Value).ownBlock)) k_) (.slice (some ⟨go16, 0, none⟩) x7_1.length co9) x7_1 from (by (with_reducible repeat (first | apply Kd.S_alloc | apply Kd.S_drewN | apply Kd.S_drew)); exact Kd.S_mono HO_7.out (fun k_ hk => ⟨trivial, fun e_ => hk e_⟩))); obtain ⟨oki19, ce19, hcl19, hM19, hcc19, hfr19, hoki19, hH19⟩ := Kd.S_elem HX19.out [] (x23_1 : Int) (of_decide_eq_true (by first | (with_reducible assumption) | assumption)) (by have h_ : (x23_1 : Int) < ((x7_1.length : Int) : Int) := of_decide_eq_true (by first | (with_reducible assumption) | assumption); first | exact h_ | (have e_ := (Kd.S_reads' HO_7.out).1; omega) | simpa using h_); obtain ⟨ve19_0, rfl, ge19_0⟩ := hM19; have HP19 := Kd.S_seg hH19 (of_decide_eq_true (by first | (with_reducible assumption) | assumption)) (by have h_ : (x23_1 : Int) < ((x7_1.length : Int) : Int) := of_decide_eq_true (by first | (with_reducible assumption) | assumption); first | exact h_ | (have e_ := (Kd.S_reads' HO_7.out).1; omega) | simpa using h_) (seg := [vBH]) (j := 0) (show 1 ≤ 1 from by decide) (x' := yBG) (Kd.M_row (Kd.R_mono (Kd.R_tight rfl (Kd.R_mono (ok' := fun k_ => ((fun _ => True)) k_ ∧ k_ ≠ go16) (Kd.R_apart' (HOBI.out) (Kd.S_typed HO_7.out) (by decide)) (fun k_ hk => ⟨trivial, fun e_ => (hk.2) (by rw [e_]; rfl)⟩))) (fun _ h_ => Or.inr (h_)))) (fun _ hk => hk) (fun k_ hk_ => ((Kd.R_mono (ok' := fun k_ => ((fun _ => True)) k_ ∧ k_ ≠ go16) (Kd.R_apart' (HOBI.out) (Kd.S_typed HO_7.out) (by decide)) (fun k_ hk => ⟨trivial, fun e_ => (hk.2) (by rw [e_]; rfl)⟩))).1 k_ hk_.symm); have hx19_0 := hcc19 0 _ rfl; (try simp only [show ((Kd.slice 3 (Kd.int .i64))).sz = 1 from rfl, Nat.mul_one, Nat.add_zero] at hx19_0); have hf19_0 := hfr19 0; (try simp only [show ((Kd.slice 3 (Kd.int .i64))).sz = 1 from rfl, Nat.mul_one, Nat.add_zero] at hf19_0); clear hcl19 hcc19 hfr19 hoki19 hH19; (try simp only [show ((Kd.slice 3 (Kd.int .i64))).sz = 1 from rfl, Nat.mul_one, Nat.add_zero] at HP19); obtain ⟨AovBH, covBH, eovBH⟩ := Kd.R_slice HOBI.out; subst eovBH) | ((with_reducible refine gate_store (t := 32) (p := 33) rfl ?_); refine store_event (t := 32) (p := 33) (v := ?vo_w20) (w1 := (w17.setCell ⟨go16, (x23_1 : Int).toNat, none⟩ ((.slice AovBH yBG.length covBH)))) ?hg ?ho ?hn ?hr ?_; (case ho => rfl); (case hg => rfl); (case hn => rfl); (case hr => first | (go_simp; done) | (go_simp; rfl)); intro w20 hw; have hg : w17.grownBy w20 (some go16) := (by rw [hw]; exact HP19.2); have hp_ : Kd.S (Kd.slice 3 (Kd.int .i64)) 32 w20 w.heap.size (fun _ => True) (.slice (some ⟨go16, 0, none⟩) x7_1.length co9) yBJ := (by rw [hw, NyBJ.out]; exact HP19.1); clear HP19; have n0_ := Aside0.mk (hp_); have n1_ := Aside0.mk ((by rw [hw]; exact below_set (HB.out) GB16.out : Below w.heap.size w w20)); clear HO_7 HB HOBI; revert n0_ n1_; intro HO_7 HB; clear hg hw hp_))
          (try simp only [← hl7_1])
          go_roundg m1
          case measure => have := MK1.out; omega
          case rel => exact ⟨(yBJ), (wrap64 (x23_1 + 1)), (by first | rfl | (simp; done) | (simp [*]; done)), H', ⟨by have := MK1.out; omega⟩, ⟨by (try simp only [hl7_1]); (with_reducible repeat (first | apply Kd.S_alloc | apply Kd.S_drewN | apply Kd.S_drew)); exact HO_7.out⟩, ⟨by exact belS⟩⟩
         ·rw [if_neg c15] at H
          exact absurd H (by simp)
        ·rw [if_neg c14] at H
         exact absurd H (by simp)
       ·rw [if_neg c13] at H
        exact absurd H (by simp)
      ·rw [if_neg c12] at H
       exact absurd H (by simp)
     ·rw [if_neg c10] at H
      have c10b0 : decide (x23_1 < (yBD.length : Int)) = false := decide_eq_false c10
      try (have c10b9 : decide (x23_1 < (x10_1.length : Int)) = false := by rw [← hl10_1]; exact c10b0)
      try (have c10b9 : decide (x23_1 < (x7_1.length : Int)) = false := by rw [← hl7_1]; exact c10b0)
      clear c10
      by_cases c21 : 0 < (x7_1.length : Int)
      ·rw [if_pos c21] at H
       have c21b0 : decide (0 < (x7_1.length : Int)) = true := decide_eq_true c21
       have c21b1 : decide (0 < x7_1.length) = true := decide_eq_true (by omega)
       clear c21
       by_cases c22 : 0 < ((rd_L1 x7_1 0).length : Int)
       ·rw [if_pos c22] at H
        have c22b0 : decide (0 < ((rd_L1 x7_1 0).length : Int)) = true := decide_eq_true c22
        have c22b1 : decide (0 < (rd_L1 x7_1 0).length) = true := decide_eq_true (by omega)
        clear c22
        obtain ⟨yBL, hyBL⟩ : ∃ y_ : List Int, y_ = ((rd_L1 x7_1 0).set (0 : Int).toNat 1) := ⟨_, rfl⟩
        replace H : (impl_ways.l1 m1 a0 a1 a2 (x7_1.set (0 : Int).toNat yBL) a1) = some r := by first | (rw [hyBL]; with_reducible exact H) | (have H2_ := (Option.bind_some _ _).symm.trans H; rw [hyBL]; with_reducible exact H2_) | (have H2_ := (Option.bind_some _ _).symm.trans H; with_reducible exact H2_) | with_reducible exact H | (rw [hyBL]; exact H) | exact H
        have NyBL := Aside0.mk hyBL
        clear hyBL
        obtain ⟨yBN, hyBN⟩ : ∃ y_ : List (List Int), y_ = (x7_1.set (0 : Int).toNat yBL) := ⟨_, rfl⟩
        replace H : (impl_ways.l1 m1 a0 a1 a2 yBN a1) = some r := by first | (rw [hyBN]; with_reducible exact H) | (have H2_ := (Option.bind_some _ _).symm.trans H; rw [hyBN]; with_reducible exact H2_) | (have H2_ := (Option.bind_some _ _).symm.trans H; with_reducible exact H2_) | with_reducible exact H | (rw [hyBN]; exact H) | exact H
        have NyBN := Aside0.mk hyBN
        clear hyBN
        have H' := Aside0.mk H
        clear H
        have pBK : 0 ≤ (0 : Int) := (by omega)
        have qBK : 0 < (x7_1.length : Int) := of_decide_eq_true (by first | (with_reducible assumption) | assumption)
        obtain ⟨adBK, ABK_0, cBK_0, eBK, hxBK_0, hlBK_0, hiBK_0⟩ := at_L1 (Kd.S_reads' HO_7.out).2.2 0 pBK qBK
        cases eBK
        obtain ⟨ceBK, hceBK, hMeBK, hccBK⟩ := Kd.S_get HO_7.out [] 0 pBK (by first | exact qBK | exact of_decide_eq_true (by first | (with_reducible assumption) | assumption) | (have e_ := (Kd.S_reads' HO_7.out).1; omega))
        obtain ⟨veBK_0, rfl, geBK_0⟩ := hMeBK
        have hvBK_0 := hccBK 0 _ rfl
        rw [Nat.add_zero, show ((Kd.slice 3 (Kd.int .i64))).sz = 1 from rfl, Nat.mul_one] at hvBK_0
        replace hvBK_0 := Option.some.inj (hvBK_0.symm.trans hxBK_0)
        rw [hvBK_0] at geBK_0
        have HLBK_0 := Aside0.mk (show Kd.R (Kd.int .i64) 3 _ _ _ _ (rd_L1 x7_1 0) from geBK_0)
        clear hvBK_0 geBK_0
        have HXBK_0 := Aside0.mk hxBK_0
        clear hccBK hceBK
        have qiBK : (0 < x7_1.length) = True := eq_true (by omega)
        (try rw [show ((0 : Int)).toNat = 0 from rfl] at hxBK_0)
        (try rw [Addr.add_zero'] at hxBK_0)
        have HRBK_0 := Aside0.mk hiBK_0
        have HCBK_0 := Aside0.mk hlBK_0
        clear hiBK_0 hlBK_0
        replace pBK := eq_true pBK
        replace qBK := eq_true qBK
        have p23 : 0 ≤ (0 : Int) := (by omega)
        have q23 : (0 : Int) < (((rd_L1 x7_1 0).length : Int) : Int) := of_decide_eq_true (by first | (with_reducible assumption) | assumption)
        have qi23 : (0 < (rd_L1 x7_1 0).length) = True := eq_true (by omega)
        obtain ⟨go23, co23, eo23, gb23, gl23, cl23, HG23⟩ := Kd.R_form HLBK_0.out (by omega)
        (first | cases eo23 | (injection eo23 with ea_ en_ ec_; (first | subst ea_ | (injection ea_ with ea_; subst ea_)); subst ec_; clear en_))
        have GB23 := Aside0.mk gb23
        have GG23 := Aside0.mk HG23
        clear gb23 gl23 HG23
        obtain ⟨hx23_0, hf23_0⟩ := Kd.R_celln 0 HLBK_0.out (0 : Int) p23 q23
        (try rw [show ((0 : Int)).toNat = 0 from rfl] at hx23_0)
        (try simp only [Nat.reduceMul, Nat.zero_mul, Nat.zero_add, Nat.reduceAdd] at hx23_0)
        (try rw [show ((0 : Int)).toNat = 0 from rfl] at hf23_0)
        (try simp only [Nat.reduceMul, Nat.zero_mul, Nat.zero_add, Nat.reduceAdd] at hf23_0)
        replace p23 := eq_true p23
        replace q23 := eq_true q23
        have hq24 : (0 : Int) < (x7_1.length : Int) := (by have h_ : (0 : Int) < ((x7_1.length : Int) : Int) := of_decide_eq_true (by first | (with_reducible assumption) | assumption); first | exact h_ | (have e_ := (Kd.S_reads' HO_7.out).1; omega) | simpa only [List.length_set, List.length_set] using h_)
        obtain ⟨oki24, ce24, hcl24, hM24, hcc24, hok24, hbk24⟩ := Kd.S_borrow HO_7.out [] (0 : Int) (by omega) hq24
        obtain ⟨ve24_0, rfl, ge24_0⟩ := hM24
        have hv24 := hcc24 0 _ rfl
        rw [Nat.add_zero, show ((Kd.slice 3 (Kd.int .i64))).sz = 1 from rfl, Nat.mul_one] at hv24
        replace hv24 := Option.some.inj (hv24.symm.trans HXBK_0.out)
        subst hv24
        clear hcc24 hcl24
        replace ge24_0 := (show Kd.R (Kd.int .i64) 3 _ _ _ _ (rd_L1 x7_1 0) from ge24_0)
        have HP24 := Kd.R_putg ge24_0 (0 : Int) 1
        go_wp2_with (first | ((with_reducible refine gate_store (t := 3) (p := 38) rfl ?_); refine store_event (t := 3) (p := 38) (v := ?vo_w25) (w1 := (wr.setCell ⟨go23, 0, none⟩ (.int .i64 1))) ?hg ?ho ?hn ?hr ?_; (case ho => rfl); (case hg => rfl); (case hn => rfl); (case hr => first | (go_simp; done) | (go_simp; rfl)); intro w25 hw; have hg : wr.grownBy w25 (some go23) := (by rw [hw]; exact HP24.2); have hz_ : Kd.R (Kd.int .i64) 3 w25 w.heap.size oki24 (.slice (some ⟨go23, 0, none⟩) (rd_L1 x7_1 0).length cBK_0) yBL := (by rw [hw, NyBL.out]; exact HP24.1); have hp_ : Kd.S (Kd.slice 3 (Kd.int .i64)) 32 w25 w.heap.size (fun _ => True) (.slice (some adBK) x7_1.length co9) yBN := (by rw [NyBN.out]; exact hbk24 hg (fun k_ e_ => by injection e_ with e_; subst e_; exact ge24_0.1 _ rfl) (Kd.M_row hz_)); have hm_ := Kd.R_mono hz_ hok24; clear HP24 hbk24; have n0_ := Aside0.mk (hp_); have n1_ := Aside0.mk ((by rw [hw]; exact below_set (HB.out) GB23.out : Below w.heap.size w w25)); have n2_ := Aside0.mk (hm_); have n3_ := Aside0.mk ((Kd.R_reads' hm_).2.1); clear HO_7 HB HLBK_0; revert n0_ n1_ n2_ n3_; intro HO_7 HB HLBS HCBM; clear hg hw hp_ hz_ hm_ hok24))
        go_loopg [7, 9] m1 (fun kq v7 v9 w' => ∃ (x7_2 : List (List Int)) (x9_2 : Int), v9 = .int .i64 x9_2 ∧ Aside0 (impl_ways.l1 kq a0 a1 a2 x7_2 x9_2 = some r) ∧ Aside0 (kq ≤ m1) ∧ Aside0 (Kd.S (Kd.slice 3 (Kd.int .i64)) 32 w' w.heap.size (fun _ => True) v7 x7_2) ∧ Aside0 (Below w.heap.size w w'))
        case atStart => exact ⟨(yBN), (a1), (by first | rfl | (simp; done) | (simp [*]; done)), H', ⟨Nat.le_refl _⟩, ⟨by (try simp only [hl7_1]); (with_reducible repeat (first | apply Kd.S_alloc | apply Kd.S_drewN | apply Kd.S_drew)); exact HO_7.out⟩, ⟨by exact belS⟩⟩
        case round =>
         clear H'
         try clear c1
         try clear p1
         try clear q1
         try clear hx1
         try clear qi1
         try clear c2
         try clear p2
         try clear q2
         try clear hx2
         try clear qi2
         try clear c5
         try clear c5b0
         try clear c5b1
         try clear c6
         try clear c6b0
         try clear c6b1
         try clear p6
         try clear c10
         try clear c10b0
         try clear c12
         try clear c12b0
         try clear c12b1
         try clear c13
         try clear c13b0
         try clear c13b1
         try clear p13
         try clear q13
         try clear hx13
         try clear qi13
         try clear c14
         try clear c14b0
         try clear c15
         try clear c15b0
         try clear c16
         try clear p16
         try clear q16
         try clear hx16
         try clear hf16
         try clear c19
         try clear hx19
         try clear hf19
         try clear c21
         try clear c21b0
         try clear c21b1
         try clear c22
         try clear c22b0
         try clear c22b1
         try clear p23
         try clear q23
         try clear hx23
         try clear qi23
         try clear hf23
         try clear c24
         try clear q24
         try clear hxBK_0
         try clear hx16_0
         try clear hx19_0
         try clear hx23_0
         try clear pBK
         try clear p16
         try clear p2
         try clear p23
         try clear p6
         try clear qBK
         try clear q16
         try clear q23
         obtain ⟨x7_2, x9_2, rfl, HA, MK2, HO_7, HB⟩ := hrel
         cases gk with
         | zero => exact absurd HA.out (by simp [impl_ways.l1])
         | succ m2 =>
          have H := HA.out
          clear HA
          simp only [impl_ways.l1] at H
          by_cases c26 : x9_2 ≥ 1
          ·rw [if_pos c26] at H
           have c26b0 : decide (1 ≤ x9_2) = true := decide_eq_true c26
           clear c26
           replace H := Option.bind_eq_some_iff.mp H
           obtain ⟨tMM, A270, H⟩ := H
           replace H : (impl_ways.l1 m2 a0 a1 a2 tMM (wrap64 (x9_2 - 1))) = some r := H
           have A27 := Aside0.mk A270
           clear A270
           have H' := Aside0.mk H
           clear H
           obtain ⟨Ao28, co28, eo28⟩ := Kd.S_slice HO_7.out
           subst eo28
           have HM := H'
           clear H'
           have HBM := HB
           have HR4 := Aside0.mk (Kd.S_reads' HO_7.out).2.2
           have HC4 := Aside0.mk (Kd.S_reads' HO_7.out).2.1
           clear HO_7 HB
           try clear hji4w
           try clear hji11w
           try clear hji11
           try clear hji4
           generalize hwF_ : wr = wF at *
           clear hwF_
           have HB := Aside0.mk (Below.refl wF.heap.size wF)
           have H : (if 0 ≤ (wrap64 (a0 + 1)) then (if (wrap64 (a0 + 1) : Int).toNat ≤ 11728124029610 then ((some (List.replicate (wrap64 (a0 + 1) : Int).toNat [] : List (List Int))).bind fun yBD => (waysRound.l0 m2 a0 a1 a2 x9_2 x7_2 yBD (yBD.length : Int) 0)) else (none)) else (none)) = some tMM := A27.out
           obtain ⟨ji6, hji6⟩ : ∃ j_ : Int, (wrap64 (a0 + 1)) = j_ := ⟨_, rfl⟩
           replace H : (if 0 ≤ (ji6) then (if (ji6 : Int).toNat ≤ 11728124029610 then ((some (List.replicate (ji6 : Int).toNat [] : List (List Int))).bind fun yBD => (waysRound.l0 m2 a0 a1 a2 x9_2 x7_2 yBD (yBD.length : Int) 0)) else (none)) else (none)) = some tMM := by first | (rw [hji6] at H; exact H) | (simp only [hji6] at H ⊢; exact H)
           have hji6w : (IntKind.i64.wrap (a0 + 1)) = ji6 := (i64_w _).trans hji6
           by_cases c7 : 0 ≤ (ji6)
           ·rw [if_pos c7] at H
            have c7b0 := eq_true c7
            have c7b1 : decide (0 ≤ (ji6)) = true := decide_eq_true c7
            clear c7
            by_cases c8 : (ji6 : Int).toNat ≤ 11728124029610
            ·rw [if_pos c8] at H
             have c8b0 := eq_true c8
             have c8b1 : decide ((ji6 : Int).toNat ≤ 11728124029610) = true := decide_eq_true c8
             clear c8
             obtain ⟨yBD, hyBD⟩ : ∃ y_ : List (List Int), y_ = (List.replicate (ji6 : Int).toNat []) := ⟨_, rfl⟩
             replace H : (waysRound.l0 m2 a0 a1 a2 x9_2 x7_2 yBD (yBD.length : Int) 0) = some tMM := by first | (rw [hyBD]; with_reducible exact H) | (have H2_ := (Option.bind_some _ _).symm.trans H; rw [hyBD]; with_reducible exact H2_) | (have H2_ := (Option.bind_some _ _).symm.trans H; with_reducible exact H2_) | with_reducible exact H | (rw [hyBD]; exact H) | exact H
             have NyBD := Aside0.mk hyBD
             clear hyBD
             have H' := Aside0.mk H
             clear H
             go_wp2_with (first | ((with_reducible refine gate_dst (N := 46) rfl ?_); refine Kd.S_make (Kd.slice 3 (Kd.int .i64)) _ 32 rfl (N := 46) rfl 63 _ _ rfl ji6 rfl rfl Try.underlying63 (.slice none 0 0) 24 info32 rfl (by decide) (by omega) [] (ok := fun _ => True) (okp := fun _ => True) ⟨_, rfl, Kd.R_nil _ _ _ _ _⟩ (fun _ hk => hk) trivial (of_decide_eq_true (by first | (with_reducible assumption) | assumption)) (Nat.le_trans (Nat.mul_le_mul_right _ (of_decide_eq_true (by first | (with_reducible assumption) | assumption) : ji6.toNat ≤ 11728124029610)) (by omega)) (Below.refl _ _) (Nat.le_refl _) ?_; intro vBE w9 ho10 hb hg_ hnew_; clear hg_ hnew_; (first | rw [← NyBD.out] at ho10 | (simp only [Int.reduceToNat] at ho10; rw [← NyBD.out] at ho10)); have n0_ := Aside0.mk (Kd.S_lower ho10 (below_size belS)); have n1_ := Aside0.mk (below_step belS hb); clear HB; revert n0_ n1_; intro HOBF HB; clear hb ho10; obtain ⟨Ao11, co11, eo11⟩ := Kd.S_slice HOBF.out; subst eo11))
             go_loopg [49] m2 (fun kq v49 w' => ∃ (x10_1 : List (List Int)) (x49_1 : Int), v49 = .int .i64 x49_1 ∧ Aside0 (waysRound.l0 kq a0 a1 a2 x9_2 x7_2 x10_1 (yBD.length : Int) x49_1 = some tMM) ∧ Aside0 (kq ≤ m2) ∧ Aside0 (Kd.S (Kd.slice 3 (Kd.int .i64)) 32 w' wF.heap.size (fun _ => True) (.slice Ao11 yBD.length co11) x10_1) ∧ Aside0 (Below wF.heap.size wF w'))
             case atStart => exact ⟨(yBD), (0), (by first | rfl | (simp; done) | (simp [*]; done)), H', ⟨Nat.le_refl _⟩, ⟨by (with_reducible repeat (first | apply Kd.S_alloc | apply Kd.S_drewN | apply Kd.S_drew)); exact HOBF.out⟩, ⟨by exact belS⟩⟩
             case round =>
              clear H'
              try clear p2
              try clear co28
              try clear p6
              try clear c7
              try clear c7b0
              try clear c7b1
              try clear c8
              try clear c8b0
              try clear c8b1
              try clear c9
              obtain ⟨x10_1, x49_1, rfl, HA, HK1, HO_10, HB⟩ := hrel
              have hl10_1 := (Kd.S_reads' HO_10.out).1
              rw [hl10_1] at HO_10
              (try simp only [hl10_1])
              cases gk with
              | zero => exact absurd HA.out (by simp [waysRound.l0])
              | succ k1 =>
               have H := HA.out
               clear HA
               simp only [waysRound.l0] at H
               by_cases c12 : x49_1 < (yBD.length : Int)
               ·rw [if_pos c12] at H
                have c12b0 : decide (x49_1 < (yBD.length : Int)) = true := decide_eq_true c12
                try (have c12b9 : decide (x49_1 < (x10_1.length : Int)) = true := by rw [← hl10_1]; exact c12b0)
                try (have c12b9 : decide (x49_1 < (x7_1.length : Int)) = true := by rw [← hl7_1]; exact c12b0)
                clear c12
                obtain ⟨ji13, hji13⟩ : ∃ j_ : Int, (wrap64 ((wrap64 (a0 * a1)) + 1)) = j_ := ⟨_, rfl⟩
                replace H : (if 0 ≤ (ji13) then (if (ji13 : Int).toNat ≤ 35184372088832 then (if 0 ≤ x49_1 then (if x49_1 < (x10_1.length : Int) then (waysRound.l0 k1 a0 a1 a2 x9_2 x7_2 (x10_1.set (x49_1 : Int).toNat (List.replicate (ji13 : Int).toNat 0)) (yBD.length : Int) (wrap64 (x49_1 + 1))) else (none)) else (none)) else (none)) else (none)) = some tMM := by first | (rw [hji13] at H; exact H) | (simp only [hji13] at H ⊢; exact H)
                have hji13w : (IntKind.i64.wrap ((wrap64 (a0 * a1)) + 1)) = ji13 := (i64_w _).trans hji13
                by_cases c14 : 0 ≤ (ji13)
                ·rw [if_pos c14] at H
                 have c14b0 := eq_true c14
                 have c14b1 : decide (0 ≤ (ji13)) = true := decide_eq_true c14
                 clear c14
                 by_cases c15 : (ji13 : Int).toNat ≤ 35184372088832
                 ·rw [if_pos c15] at H
                  have c15b0 := eq_true c15
                  have c15b1 : decide ((ji13 : Int).toNat ≤ 35184372088832) = true := decide_eq_true c15
                  clear c15
                  obtain ⟨yBG, hyBG⟩ : ∃ y_ : List Int, y_ = (List.replicate (ji13 : Int).toNat 0) := ⟨_, rfl⟩
                  replace H : (if 0 ≤ x49_1 then (if x49_1 < (x10_1.length : Int) then (waysRound.l0 k1 a0 a1 a2 x9_2 x7_2 (x10_1.set (x49_1 : Int).toNat yBG) (yBD.length : Int) (wrap64 (x49_1 + 1))) else (none)) else (none)) = some tMM := by first | (rw [hyBG]; with_reducible exact H) | (have H2_ := (Option.bind_some _ _).symm.trans H; rw [hyBG]; with_reducible exact H2_) | (have H2_ := (Option.bind_some _ _).symm.trans H; with_reducible exact H2_) | with_reducible exact H | (rw [hyBG]; exact H) | exact H
                  have NyBG := Aside0.mk hyBG
                  clear hyBG
                  by_cases c16 : 0 ≤ x49_1
                  ·rw [if_pos c16] at H
                   have c16b0 : decide (0 ≤ x49_1) = true := decide_eq_true c16
                   clear c16
                   by_cases c17 : x49_1 < (x10_1.length : Int)
                   ·rw [if_pos c17] at H
                    have c17b0 : decide (x49_1 < (x10_1.length : Int)) = true := decide_eq_true c17
                    try (have c17b9 : decide (x49_1 < (x10_2.length : Int)) = true := by rw [← hl10_2]; exact c17b0)
                    clear c17
                    obtain ⟨yBJ, hyBJ⟩ : ∃ y_ : List (List Int), y_ = (x10_1.set (x49_1 : Int).toNat yBG) := ⟨_, rfl⟩
                    replace H : (waysRound.l0 k1 a0 a1 a2 x9_2 x7_2 yBJ (yBD.length : Int) (wrap64 (x49_1 + 1))) = some tMM := by first | (rw [hyBJ]; with_reducible exact H) | (have H2_ := (Option.bind_some _ _).symm.trans H; rw [hyBJ]; with_reducible exact H2_) | (have H2_ := (Option.bind_some _ _).symm.trans H; with_reducible exact H2_) | with_reducible exact H | (rw [hyBJ]; exact H) | exact H
                    have NyBJ := Aside0.mk hyBJ
                    clear hyBJ
                    have H' := Aside0.mk H
                    clear H
                    go_wp2_with (first | ((with_reducible refine gate_dst (N := 58) rfl ?_); refine Kd.R_make (Kd.int .i64) _ 3 rfl (N := 58) rfl 32 _ _ rfl ji13 rfl rfl Try.underlying32 (.int .i64 0) 8 info3 rfl (by decide) (by omega) 0 (ok := fun _ => True) (okp := fun _ => True) rfl (fun _ hk => hk) trivial (of_decide_eq_true (by first | (with_reducible assumption) | assumption)) (Nat.le_trans (Nat.mul_le_mul_right _ (of_decide_eq_true (by first | (with_reducible assumption) | assumption) : ji13.toNat ≤ 35184372088832)) (by omega)) (Below.refl _ _) (Nat.le_refl _) ?_; intro vBH w19 ho20 hb hg_ hnew_; clear hg_ hnew_; (first | rw [← NyBG.out] at ho20 | (simp only [Int.reduceToNat] at ho20; rw [← NyBG.out] at ho20)); have n0_ := Aside0.mk (Kd.S_elder' (by (with_reducible repeat (first | apply Kd.S_alloc | apply Kd.S_drewN | apply Kd.S_drew)); exact HO_10.out) (Kd.R_base ho20) hb); have n1_ := Aside0.mk (Kd.R_lower ho20 (below_size belS)); have n2_ := Aside0.mk (below_step belS hb); clear HO_10 HB; revert n0_ n1_ n2_; intro HO_10 HOBI HB; clear hb ho20; have p18 : 0 ≤ (x49_1 : Int) := of_decide_eq_true (by first | (with_reducible assumption) | assumption); have q18 : (x49_1 : Int) < ((x10_1.length : Int) : Int) := of_decide_eq_true (by first | (with_reducible assumption) | assumption); obtain ⟨go18, co18, eo18, gb18, gl18, cl18, HG18⟩ := Kd.S_form HO_10.out (by omega); (first | cases eo18 | (injection eo18 with ea_ en_ ec_; (first | subst ea_ | (injection ea_ with ea_; subst ea_)); subst ec_; clear en_)); have GB18 := Aside0.mk gb18; have GG18 := Aside0.mk HG18; clear gb18 gl18 HG18; obtain ⟨_, ce18, hcl18, hM18, hcc18, hfr18, _, _⟩ := Kd.S_elem HO_10.out [] (x49_1 : Int) p18 q18; obtain ⟨ve18_0, rfl, ge18_0⟩ := hM18; have hx18_0 := hcc18 0 _ rfl; have hf18_0 := hfr18 0; (try simp only [show ((Kd.slice 3 (Kd.int .i64))).sz = 1 from rfl, Nat.mul_one, Nat.add_zero] at hx18_0); (try simp only [show ((Kd.slice 3 (Kd.int .i64))).sz = 1 from rfl, Nat.mul_one, Nat.add_zero] at hf18_0); clear hcl18 hcc18 hfr18; replace p18 := eq_true p18; replace q18 := eq_true q18; have n_ := Aside0.mk (Kd.S_mono (ok' := (fun k_ => some k_ ≠ (vBH : Value).ownBlock)) HO_10.out (fun k_ hk => hk.2)); clear HO_10; have HO_10 := n_; clear n_; have HX21 := Aside0.mk (show Kd.S (Kd.slice 3 (Kd.int .i64)) 32 w19 wF.heap.size (fun k_ => ((fun _ => True)) k_ ∧ ¬ ((fun k_ => some k_ = (vBH : Value).ownBlock)) k_) (.slice (some ⟨go18, 0, none⟩) x10_1.length co11) x10_1 from (by (with_reducible repeat (first | apply Kd.S_alloc | apply Kd.S_drewN | apply Kd.S_drew)); exact Kd.S_mono HO_10.out (fun k_ hk => ⟨trivial, fun e_ => hk e_⟩))); obtain ⟨oki21, ce21, hcl21, hM21, hcc21, hfr21, hoki21, hH21⟩ := Kd.S_elem HX21.out [] (x49_1 : Int) (of_decide_eq_true (by first | (with_reducible assumption) | assumption)) (by have h_ : (x49_1 : Int) < ((x10_1.length : Int) : Int) := of_decide_eq_true (by first | (with_reducible assumption) | assumption); first | exact h_ | (have e_ := (Kd.S_reads' HO_10.out).1; omega) | simpa using h_); obtain ⟨ve21_0, rfl, ge21_0⟩ := hM21; have HP21 := Kd.S_seg hH21 (of_decide_eq_true (by first | (with_reducible assumption) | assumption)) (by have h_ : (x49_1 : Int) < ((x10_1.length : Int) : Int) := of_decide_eq_true (by first | (with_reducible assumption) | assumption); first | exact h_ | (have e_ := (Kd.S_reads' HO_10.out).1; omega) | simpa using h_) (seg := [vBH]) (j := 0) (show 1 ≤ 1 from by decide) (x' := yBG) (Kd.M_row (Kd.R_mono (Kd.R_tight rfl (Kd.R_mono (ok' := fun k_ => ((fun _ => True)) k_ ∧ k_ ≠ go18) (Kd.R_apart' (HOBI.out) (Kd.S_typed HO_10.out) (by decide)) (fun k_ hk => ⟨trivial, fun e_ => (hk.2) (by rw [e_]; rfl)⟩))) (fun _ h_ => Or.inr (h_)))) (fun _ hk => hk) (fun k_ hk_ => ((Kd.R_mono (ok' := fun k_ => ((fun _ => True)) k_ ∧ k_ ≠ go18) (Kd.R_apart' (HOBI.out) (Kd.S_typed HO_10.out) (by decide)) (fun k_ hk => ⟨trivial, fun e_ => (hk.2) (by rw [e_]; rfl)⟩))).1 k_ hk_.symm); have hx21_0 := hcc21 0 _ rfl; (try simp only [show ((Kd.slice 3 (Kd.int .i64))).sz = 1 from rfl, Nat.mul_one, Nat.add_zero] at hx21_0); have hf21_0 := hfr21 0; (try simp only [show ((Kd.slice 3 (Kd.int .i64))).sz = 1 from rfl, Nat.mul_one, Nat.add_zero] at hf21_0); clear hcl21 hcc21 hfr21 hoki21 hH21; (try simp only [show ((Kd.slice 3 (Kd.int .i64))).sz = 1 from rfl, Nat.mul_one, Nat.add_zero] at HP21); obtain ⟨AovBH, covBH, eovBH⟩ := Kd.R_slice HOBI.out; subst eovBH) | ((with_reducible refine gate_store (t := 32) (p := 59) rfl ?_); refine store_event (t := 32) (p := 59) (v := ?vo_w22) (w1 := (w19.setCell ⟨go18, (x49_1 : Int).toNat, none⟩ ((.slice AovBH yBG.length covBH)))) ?hg ?ho ?hn ?hr ?_; (case ho => rfl); (case hg => rfl); (case hn => rfl); (case hr => first | (go_simp; done) | (go_simp; rfl)); intro w22 hw; have hg : w19.grownBy w22 (some go18) := (by rw [hw]; exact HP21.2); have hp_ : Kd.S (Kd.slice 3 (Kd.int .i64)) 32 w22 wF.heap.size (fun _ => True) (.slice (some ⟨go18, 0, none⟩) x10_1.length co11) yBJ := (by rw [hw, NyBJ.out]; exact HP21.1); clear HP21; have n0_ := Aside0.mk (hp_); have n1_ := Aside0.mk ((by rw [hw]; exact below_set (HB.out) GB18.out : Below wF.heap.size wF w22)); clear HO_10 HB HOBI; revert n0_ n1_; intro HO_10 HB; clear hg hw hp_))
                    (try simp only [← hl10_1])
                    go_roundg k1
                    case measure => have := HK1.out; omega
                    case rel => exact ⟨(yBJ), (wrap64 (x49_1 + 1)), (by first | rfl | (simp; done) | (simp [*]; done)), H', ⟨by have := HK1.out; omega⟩, ⟨by (try simp only [hl10_1]); (with_reducible repeat (first | apply Kd.S_alloc | apply Kd.S_drewN | apply Kd.S_drew)); exact HO_10.out⟩, ⟨by exact belS⟩⟩
                   ·rw [if_neg c17] at H
                    exact absurd H (by simp)
                  ·rw [if_neg c16] at H
                   exact absurd H (by simp)
                 ·rw [if_neg c15] at H
                  exact absurd H (by simp)
                ·rw [if_neg c14] at H
                 exact absurd H (by simp)
               ·rw [if_neg c12] at H
                have c12b0 : decide (x49_1 < (yBD.length : Int)) = false := decide_eq_false c12
                try (have c12b9 : decide (x49_1 < (x10_1.length : Int)) = false := by rw [← hl10_1]; exact c12b0)
                try (have c12b9 : decide (x49_1 < (x7_1.length : Int)) = false := by rw [← hl7_1]; exact c12b0)
                clear c12
                have H' := Aside0.mk H
                clear H
                go_wp2
                go_loopg [63] k1 (fun kq v63 w' => ∃ (x10_2 : List (List Int)) (x63_2 : Int), v63 = .int .i64 x63_2 ∧ Aside0 (waysRound.l1 kq a0 a2 x9_2 x10_2 x7_2 (x7_2.length : Int) x63_2 = some tMM) ∧ Aside0 (kq ≤ k1) ∧ Aside0 (Kd.S (Kd.slice 3 (Kd.int .i64)) 32 w' wF.heap.size (fun _ => True) (.slice Ao11 x10_1.length co11) x10_2) ∧ Aside0 (Below wF.heap.size wF w'))
                case atStart => exact ⟨(x10_1), (0), (by first | rfl | (simp; done) | (simp [*]; done)), H', ⟨Nat.le_refl _⟩, ⟨by (try simp only [hl10_1]); (with_reducible repeat (first | apply Kd.S_alloc | apply Kd.S_drewN | apply Kd.S_drew)); exact HO_10.out⟩, ⟨by exact belS⟩⟩
                case round =>
                 clear H'
                 try clear c1
                 try clear p1
                 try clear q1
                 try clear hx1
                 try clear c2
                 try clear p2
                 try clear hx2
                 try clear co28
                 try clear p6
                 try clear c7
                 try clear c7b0
                 try clear c7b1
                 try clear c8
                 try clear c8b0
                 try clear c8b1
                 try clear c9
                 try clear c12
                 try clear c12b0
                 try clear c14
                 try clear c14b0
                 try clear c14b1
                 try clear c15
                 try clear c15b0
                 try clear c15b1
                 try clear c16
                 try clear c16b0
                 try clear c17
                 try clear c17b0
                 try clear c18
                 try clear p18
                 try clear q18
                 try clear hx18
                 try clear hf18
                 try clear c21
                 try clear hx21
                 try clear hf21
                 try clear hx18_0
                 try clear hx21_0
                 try clear p18
                 try clear p2
                 try clear p6
                 try clear q18
                 obtain ⟨x10_2, x63_2, rfl, HA, HK2, HO_10, HB⟩ := hrel
                 have hl10_2 := (Kd.S_reads' HO_10.out).1
                 rw [hl10_2] at HO_10
                 (try simp only [hl10_2])
                 cases gk with
                 | zero => exact absurd HA.out (by simp [waysRound.l1])
                 | succ k2 =>
                  have H := HA.out
                  clear HA
                  simp only [waysRound.l1] at H
                  by_cases c23 : x63_2 < (x7_2.length : Int)
                  ·rw [if_pos c23] at H
                   have c23b0 : decide (x63_2 < (x7_2.length : Int)) = true := decide_eq_true c23
                   clear c23
                   by_cases c24 : 0 ≤ x63_2
                   ·rw [if_pos c24] at H
                    have c24b0 : decide (0 ≤ x63_2) = true := decide_eq_true c24
                    clear c24
                    by_cases c25 : x63_2 < (x7_2.length : Int)
                    ·rw [if_pos c25] at H
                     have c25b0 : decide (x63_2 < (x7_2.length : Int)) = true := decide_eq_true c25
                     clear c25
                     have H' := Aside0.mk H
                     clear H
                     have pBK : 0 ≤ (x63_2 : Int) := of_decide_eq_true (by first | (with_reducible assumption) | assumption)
                     have qBK : x63_2 < (x7_2.length : Int) := of_decide_eq_true (by first | (with_reducible assumption) | assumption)
                     obtain ⟨adBK, ABK_0, cBK_0, eBK, hxBK_0, hlBK_0, hiBK_0⟩ := at_L1 HR4.out x63_2 pBK qBK
                     cases eBK
                     first | (replace hxBK_0 := (HB.out.cell (World.block_lt_of_cell? wF _ hxBK_0)).trans hxBK_0) | skip
                     have HRBK_0 := Aside0.mk hiBK_0
                     have HCBK_0 := Aside0.mk hlBK_0
                     clear hiBK_0 hlBK_0
                     replace pBK := eq_true pBK
                     replace qBK := eq_true qBK
                     go_wp2
                     go_loopg [70] k2 (fun kq v70 w' => ∃ (x10_3 : List (List Int)) (x70_3 : Int), v70 = .int .i64 x70_3 ∧ Aside0 (waysRound.l2 kq a0 a2 x9_2 x10_3 x63_2 x7_2 (x7_2.length : Int) x63_2 (rd_L1 x7_2 x63_2) ((rd_L1 x7_2 x63_2).length : Int) x70_3 = some tMM) ∧ Aside0 (kq ≤ k2) ∧ Aside0 (Kd.S (Kd.slice 3 (Kd.int .i64)) 32 w' wF.heap.size (fun _ => True) (.slice Ao11 x10_2.length co11) x10_3) ∧ Aside0 (Below wF.heap.size wF w'))
                     case atStart => exact ⟨(x10_2), (0), (by first | rfl | (simp; done) | (simp [*]; done)), H', ⟨Nat.le_refl _⟩, ⟨by (try simp only [hl10_1]); (try simp only [hl10_2]); (with_reducible repeat (first | apply Kd.S_alloc | apply Kd.S_drewN | apply Kd.S_drew)); exact HO_10.out⟩, ⟨by exact belS⟩⟩
                     case round =>
                      clear H'
                      try clear c1
                      try clear p1
                      try clear q1
                      try clear hx1
                      try clear c2
                      try clear p2
                      try clear hx2
                      try clear co28
                      try clear p6
                      try clear c7
                      try clear c7b0
                      try clear c7b1
                      try clear c8
                      try clear c8b0
                      try clear c8b1
                      try clear c9
                      try clear c12
                      try clear c12b0
                      try clear c14
                      try clear c14b0
                      try clear c14b1
                      try clear c15
                      try clear c15b0
                      try clear c15b1
                      try clear c16
                      try clear c16b0
                      try clear c17
                      try clear c17b0
                      try clear c18
                      try clear p18
                      try clear q18
                      try clear hx18
                      try clear hf18
                      try clear c21
                      try clear hx21
                      try clear hf21
                      try clear c23
                      try clear c23b0
                      try clear c24
                      try clear c24b0
                      try clear c25
                      try clear c25b0
                      try clear hxBK_0
                      try clear hx18_0
                      try clear hx21_0
                      try clear p1
                      try clear p18
                      try clear pBK
                      try clear p2
                      try clear p6
                      try clear q1
                      try clear q18
                      try clear qBK
                      obtain ⟨x10_3, x70_3, rfl, HA, HK3, HO_10, HB⟩ := hrel
                      have hl10_3 := (Kd.S_reads' HO_10.out).1
                      rw [hl10_3] at HO_10
                      (try simp only [hl10_3])
                      cases gk with
                      | zero => exact absurd HA.out (by simp [waysRound.l2])
                      | succ k3 =>
                       have H := HA.out
                       clear HA
                       simp only [waysRound.l2] at H
                       by_cases c26 : x70_3 < ((rd_L1 x7_2 x63_2).length : Int)
                       ·rw [if_pos c26] at H
                        have c26b0 : decide (x70_3 < ((rd_L1 x7_2 x63_2).length : Int)) = true := decide_eq_true c26
                        clear c26
                        by_cases c27 : 0 ≤ x70_3
                        ·rw [if_pos c27] at H
                         have c27b0 : decide (0 ≤ x70_3) = true := decide_eq_true c27
                         clear c27
                         by_cases c28 : x70_3 < ((rd_L1 x7_2 x63_2).length : Int)
                         ·rw [if_pos c28] at H
                          have c28b0 : decide (x70_3 < ((rd_L1 x7_2 x63_2).length : Int)) = true := decide_eq_true c28
                          clear c28
                          by_cases c29 : (rd (rd_L1 x7_2 x63_2) x70_3) = 0
                          ·rw [if_pos c29] at H
                           have c29b0 : ((rd (rd_L1 x7_2 x63_2) x70_3) == 0) = true := beq_iff_eq.mpr c29
                           have c29b1 : ((rd (rd_L1 x7_2 x63_2) x70_3) != 0) = false := bne_eq_false_iff_eq.mpr c29
                           clear c29
                           have H' := Aside0.mk H
                           clear H
                           have pBL : 0 ≤ (x70_3 : Int) := of_decide_eq_true (by first | (with_reducible assumption) | assumption)
                           have qBL : x70_3 < ((rd_L1 x7_2 x63_2).length : Int) := of_decide_eq_true (by first | (with_reducible assumption) | assumption)
                           obtain ⟨adBL, eBL, hxBL_0⟩ := Kd.at_int HRBK_0.out x70_3 pBL qBL
                           cases eBL
                           first | (replace hxBL_0 := (HB.out.cell (World.block_lt_of_cell? wF _ hxBL_0)).trans hxBL_0) | skip
                           replace pBL := eq_true pBL
                           replace qBL := eq_true qBL
                           go_wp2
                           (try simp only [← hl10_3])
                           go_roundg k3
                           case measure => have := HK1.out; have := HK2.out; have := HK3.out; omega
                           case rel => exact ⟨(x10_3), (wrap64 (x70_3 + 1)), (by first | rfl | (simp; done) | (simp [*]; done)), H', ⟨by have := HK1.out; have := HK2.out; have := HK3.out; omega⟩, ⟨by (try simp only [hl10_1]); (try simp only [hl10_2]); (try simp only [hl10_3]); (with_reducible repeat (first | apply Kd.S_alloc | apply Kd.S_drewN | apply Kd.S_drew)); exact HO_10.out⟩, ⟨by exact belS⟩⟩
                          ·rw [if_neg c29] at H
                           have c29b0 : ((rd (rd_L1 x7_2 x63_2) x70_3) == 0) = false := beq_eq_false_iff_ne.mpr c29
                           have c29b1 : ((rd (rd_L1 x7_2 x63_2) x70_3) != 0) = true := bne_iff_ne.mpr c29
                           have H' := Aside0.mk H
                           clear H
                           have pBL : 0 ≤ (x70_3 : Int) := of_decide_eq_true (by first | (with_reducible assumption) | assumption)
                           have qBL : x70_3 < ((rd_L1 x7_2 x63_2).length : Int) := of_decide_eq_true (by first | (with_reducible assumption) | assumption)
                           obtain ⟨adBL, eBL, hxBL_0⟩ := Kd.at_int HRBK_0.out x70_3 pBL qBL
                           cases eBL
                           first | (replace hxBL_0 := (HB.out.cell (World.block_lt_of_cell? wF _ hxBL_0)).trans hxBL_0) | skip
                           replace pBL := eq_true pBL
                           replace qBL := eq_true qBL
                           go_wp2
                           go_loopg [16] k3 (fun kq v16 w' => ∃ (x10_4 : List (List Int)) (x16_4 : Int), v16 = .int .i64 x16_4 ∧ Aside0 (waysRound.l3 kq a0 a2 x9_2 x10_4 x63_2 x70_3 (rd (rd_L1 x7_2 x63_2) x70_3) x16_4 x7_2 (x7_2.length : Int) x63_2 (rd_L1 x7_2 x63_2) ((rd_L1 x7_2 x63_2).length : Int) x70_3 = some tMM) ∧ Aside0 (kq ≤ k3) ∧ Aside0 (Kd.S (Kd.slice 3 (Kd.int .i64)) 32 w' wF.heap.size (fun _ => True) (.slice Ao11 x10_3.length co11) x10_4) ∧ Aside0 (Below wF.heap.size wF w'))
                           case atStart => exact ⟨(x10_3), (0), (by first | rfl | (simp; done) | (simp [*]; done)), H', ⟨Nat.le_refl _⟩, ⟨by (try simp only [hl10_1]); (try simp only [hl10_2]); (try simp only [hl10_3]); (with_reducible repeat (first | apply Kd.S_alloc | apply Kd.S_drewN | apply Kd.S_drew)); exact HO_10.out⟩, ⟨by exact belS⟩⟩
                           case round =>
                            clear H'
                            try clear c1
                            try clear p1
                            try clear q1
                            try clear hx1
                            try clear c2
                            try clear p2
                            try clear hx2
                            try clear co28
                            try clear p6
                            try clear c7
                            try clear c7b0
                            try clear c7b1
                            try clear c8
                            try clear c8b0
                            try clear c8b1
                            try clear c9
                            try clear c12
                            try clear c12b0
                            try clear c14
                            try clear c14b0
                            try clear c14b1
                            try clear c15
                            try clear c15b0
                            try clear c15b1
                            try clear c16
                            try clear c16b0
                            try clear c17
                            try clear c17b0
                            try clear c18
                            try clear p18
                            try clear q18
                            try clear hx18
                            try clear hf18
                            try clear c21
                            try clear hx21
                            try clear hf21
                            try clear c23
                            try clear c23b0
                            try clear c24
                            try clear c24b0
                            try clear c25
                            try clear c25b0
                            try clear c26
                            try clear c26b0
                            try clear c27
                            try clear c27b0
                            try clear c28
                            try clear c28b0
                            try clear c29
                            try clear c29b0
                            try clear c29b1
                            try clear hxBK_0
                            try clear hxBL_0
                            try clear hx18_0
                            try clear hx21_0
                            try clear p1
                            try clear p18
                            try clear pBK
                            try clear pBL
                            try clear p2
                            try clear p6
                            try clear q1
                            try clear q18
                            try clear qBK
                            try clear qBL
                            obtain ⟨x10_4, x16_4, rfl, HA, HK4, HO_10, HB⟩ := hrel
                            have hl10_4 := (Kd.S_reads' HO_10.out).1
                            rw [hl10_4] at HO_10
                            (try simp only [hl10_4])
                            cases gk with
                            | zero => exact absurd HA.out (by simp [waysRound.l3])
                            | succ k4 =>
                             have H := HA.out
                             clear HA
                             simp only [waysRound.l3] at H
                             by_cases c30 : (wrap64 (x63_2 + x16_4)) ≤ a0
                             ·rw [if_pos c30] at H
                              have c30b0 : decide ((wrap64 (x63_2 + x16_4)) ≤ a0) = true := decide_eq_true c30
                              clear c30
                              obtain ⟨ji31, hji31⟩ : ∃ j_ : Int, (mn x16_4 (wrap64 (a2 - x63_2))) = j_ := ⟨_, rfl⟩
                              replace H : (if 0 ≤ (wrap64 (x63_2 + x16_4)) then (if (wrap64 (x63_2 + x16_4)) < (x10_4.length : Int) then (if 0 ≤ (wrap64 (x70_3 + (wrap64 (x9_2 * (mx 0 (ji31)))))) then (if (wrap64 (x70_3 + (wrap64 (x9_2 * (mx 0 (ji31)))))) < ((rd_L1 x10_4 (wrap64 (x63_2 + x16_4))).length : Int) then ((impl_choose.f k4 (wrap64 (a0 - x63_2)) x16_4).bind fun tBO => (waysRound.l3 k4 a0 a2 x9_2 (x10_4.set ((wrap64 (x63_2 + x16_4)) : Int).toNat ((rd_L1 x10_4 (wrap64 (x63_2 + x16_4))).set ((wrap64 (x70_3 + (wrap64 (x9_2 * (mx 0 (ji31)))))) : Int).toNat (wrap64 ((rd (rd_L1 x10_4 (wrap64 (x63_2 + x16_4))) (wrap64 (x70_3 + (wrap64 (x9_2 * (mx 0 (ji31))))))) + (wrap64 ((rd (rd_L1 x7_2 x63_2) x70_3) * tBO)))))) x63_2 x70_3 (rd (rd_L1 x7_2 x63_2) x70_3) (wrap64 (x16_4 + 1)) x7_2 (x7_2.length : Int) x63_2 (rd_L1 x7_2 x63_2) ((rd_L1 x7_2 x63_2).length : Int) x70_3)) else (none)) else (none)) else (none)) else (none)) = some tMM := by first | (rw [hji31] at H; exact H) | (simp only [hji31] at H ⊢; exact H)
                              have hji31_ : (if (wrap64 (a2 - x63_2)) < x16_4 then (wrap64 (a2 - x63_2)) else x16_4) = ji31 := hji31
                              obtain ⟨ji32, hji32⟩ : ∃ j_ : Int, (mx 0 (ji31)) = j_ := ⟨_, rfl⟩
                              replace H : (if 0 ≤ (wrap64 (x63_2 + x16_4)) then (if (wrap64 (x63_2 + x16_4)) < (x10_4.length : Int) then (if 0 ≤ (wrap64 (x70_3 + (wrap64 (x9_2 * (ji32))))) then (if (wrap64 (x70_3 + (wrap64 (x9_2 * (ji32))))) < ((rd_L1 x10_4 (wrap64 (x63_2 + x16_4))).length : Int) then ((impl_choose.f k4 (wrap64 (a0 - x63_2)) x16_4).bind fun tBO => (waysRound.l3 k4 a0 a2 x9_2 (x10_4.set ((wrap64 (x63_2 + x16_4)) : Int).toNat ((rd_L1 x10_4 (wrap64 (x63_2 + x16_4))).set ((wrap64 (x70_3 + (wrap64 (x9_2 * (ji32))))) : Int).toNat (wrap64 ((rd (rd_L1 x10_4 (wrap64 (x63_2 + x16_4))) (wrap64 (x70_3 + (wrap64 (x9_2 * (ji32)))))) + (wrap64 ((rd (rd_L1 x7_2 x63_2) x70_3) * tBO)))))) x63_2 x70_3 (rd (rd_L1 x7_2 x63_2) x70_3) (wrap64 (x16_4 + 1)) x7_2 (x7_2.length : Int) x63_2 (rd_L1 x7_2 x63_2) ((rd_L1 x7_2 x63_2).length : Int) x70_3)) else (none)) else (none)) else (none)) else (none)) = some tMM := by first | (rw [hji32] at H; exact H) | (simp only [hji32] at H ⊢; exact H)
                              have hji32_ : (if 0 < (ji31) then (ji31) else 0) = ji32 := hji32
                              obtain ⟨ji33, hji33⟩ : ∃ j_ : Int, (wrap64 (x63_2 + x16_4)) = j_ := ⟨_, rfl⟩
                              replace H : (if 0 ≤ (ji33) then (if (ji33) < (x10_4.length : Int) then (if 0 ≤ (wrap64 (x70_3 + (wrap64 (x9_2 * (ji32))))) then (if (wrap64 (x70_3 + (wrap64 (x9_2 * (ji32))))) < ((rd_L1 x10_4 (ji33)).length : Int) then ((impl_choose.f k4 (wrap64 (a0 - x63_2)) x16_4).bind fun tBO => (waysRound.l3 k4 a0 a2 x9_2 (x10_4.set ((ji33) : Int).toNat ((rd_L1 x10_4 (ji33)).set ((wrap64 (x70_3 + (wrap64 (x9_2 * (ji32))))) : Int).toNat (wrap64 ((rd (rd_L1 x10_4 (ji33)) (wrap64 (x70_3 + (wrap64 (x9_2 * (ji32)))))) + (wrap64 ((rd (rd_L1 x7_2 x63_2) x70_3) * tBO)))))) x63_2 x70_3 (rd (rd_L1 x7_2 x63_2) x70_3) (wrap64 (x16_4 + 1)) x7_2 (x7_2.length : Int) x63_2 (rd_L1 x7_2 x63_2) ((rd_L1 x7_2 x63_2).length : Int) x70_3)) else (none)) else (none)) else (none)) else (none)) = some tMM := by first | (rw [hji33] at H; exact H) | (simp only [hji33] at H ⊢; exact H)
                              (try rw [hji33] at c30b0)
                              have hji33w : (IntKind.i64.wrap (x63_2 + x16_4)) = ji33 := (i64_w _).trans hji33
                              by_cases c34 : 0 ≤ (ji33)
                              ·rw [if_pos c34] at H
                               have c34b0 : decide (0 ≤ (ji33)) = true := decide_eq_true c34
                               clear c34
                               by_cases c35 : (ji33) < (x10_4.length : Int)
                               ·rw [if_pos c35] at H
                                have c35b0 : decide ((ji33) < (x10_4.length : Int)) = true := decide_eq_true c35
                                clear c35
                                obtain ⟨ji36, hji36⟩ : ∃ j_ : Int, (wrap64 (x70_3 + (wrap64 (x9_2 * (ji32))))) = j_ := ⟨_, rfl⟩
                                replace H : (if 0 ≤ (ji36) then (if (ji36) < ((rd_L1 x10_4 (ji33)).length : Int) then ((impl_choose.f k4 (wrap64 (a0 - x63_2)) x16_4).bind fun tBO => (waysRound.l3 k4 a0 a2 x9_2 (x10_4.set ((ji33) : Int).toNat ((rd_L1 x10_4 (ji33)).set ((ji36) : Int).toNat (wrap64 ((rd (rd_L1 x10_4 (ji33)) (ji36)) + (wrap64 ((rd (rd_L1 x7_2 x63_2) x70_3) * tBO)))))) x63_2 x70_3 (rd (rd_L1 x7_2 x63_2) x70_3) (wrap64 (x16_4 + 1)) x7_2 (x7_2.length : Int) x63_2 (rd_L1 x7_2 x63_2) ((rd_L1 x7_2 x63_2).length : Int) x70_3)) else (none)) else (none)) = some tMM := by first | (rw [hji36] at H; exact H) | (simp only [hji36] at H ⊢; exact H)
                                have hji36w : (IntKind.i64.wrap (x70_3 + (wrap64 (x9_2 * (ji32))))) = ji36 := (i64_w _).trans hji36
                                by_cases c37 : 0 ≤ (ji36)
                                ·rw [if_pos c37] at H
                                 have c37b0 : decide (0 ≤ (ji36)) = true := decide_eq_true c37
                                 clear c37
                                 by_cases c38 : (ji36) < ((rd_L1 x10_4 (ji33)).length : Int)
                                 ·rw [if_pos c38] at H
                                  have c38b0 : decide ((ji36) < ((rd_L1 x10_4 (ji33)).length : Int)) = true := decide_eq_true c38
                                  clear c38
                                  replace H := Option.bind_eq_some_iff.mp H
                                  obtain ⟨tBO, A390, H⟩ := H
                                  replace H : (waysRound.l3 k4 a0 a2 x9_2 (x10_4.set ((ji33) : Int).toNat ((rd_L1 x10_4 (ji33)).set ((ji36) : Int).toNat (wrap64 ((rd (rd_L1 x10_4 (ji33)) (ji36)) + (wrap64 ((rd (rd_L1 x7_2 x63_2) x70_3) * tBO)))))) x63_2 x70_3 (rd (rd_L1 x7_2 x63_2) x70_3) (wrap64 (x16_4 + 1)) x7_2 (x7_2.length : Int) x63_2 (rd_L1 x7_2 x63_2) ((rd_L1 x7_2 x63_2).length : Int) x70_3) = some tMM := H
                                  have A39 := Aside0.mk A390
                                  clear A390
                                  obtain ⟨yBP, hyBP⟩ : ∃ y_ : List Int, y_ = ((rd_L1 x10_4 (ji33)).set ((ji36) : Int).toNat (wrap64 ((rd (rd_L1 x10_4 (ji33)) (ji36)) + (wrap64 ((rd (rd_L1 x7_2 x63_2) x70_3) * tBO))))) := ⟨_, rfl⟩
                                  replace H : (waysRound.l3 k4 a0 a2 x9_2 (x10_4.set ((ji33) : Int).toNat yBP) x63_2 x70_3 (rd (rd_L1 x7_2 x63_2) x70_3) (wrap64 (x16_4 + 1)) x7_2 (x7_2.length : Int) x63_2 (rd_L1 x7_2 x63_2) ((rd_L1 x7_2 x63_2).length : Int) x70_3) = some tMM := by first | (rw [hyBP]; with_reducible exact H) | (have H2_ := (Option.bind_some _ _).symm.trans H; rw [hyBP]; with_reducible exact H2_) | (have H2_ := (Option.bind_some _ _).symm.trans H; with_reducible exact H2_) | with_reducible exact H | (rw [hyBP]; exact H) | exact H
                                  have NyBP := Aside0.mk hyBP
                                  clear hyBP
                                  obtain ⟨yBR, hyBR⟩ : ∃ y_ : List (List Int), y_ = (x10_4.set ((ji33) : Int).toNat yBP) := ⟨_, rfl⟩
                                  replace H : (waysRound.l3 k4 a0 a2 x9_2 yBR x63_2 x70_3 (rd (rd_L1 x7_2 x63_2) x70_3) (wrap64 (x16_4 + 1)) x7_2 (x7_2.length : Int) x63_2 (rd_L1 x7_2 x63_2) ((rd_L1 x7_2 x63_2).length : Int) x70_3) = some tMM := by first | (rw [hyBR]; with_reducible exact H) | (have H2_ := (Option.bind_some _ _).symm.trans H; rw [hyBR]; with_reducible exact H2_) | (have H2_ := (Option.bind_some _ _).symm.trans H; with_reducible exact H2_) | with_reducible exact H | (rw [hyBR]; exact H) | exact H
                                  have NyBR := Aside0.mk hyBR
                                  clear hyBR
                                  have H' := Aside0.mk H
                                  clear H
                                  try go_wp2
                                  have n0_ := Aside0.mk (Kd.S_drew HO_10.out)
                                  have n1_ := Aside0.mk (below_drew1 HB.out)
                                  clear HO_10
                                  clear HB
                                  have HO_10 := n0_
                                  have HB := n1_
                                  clear n0_ n1_
                                  have pBM : 0 ≤ ((ji33) : Int) := of_decide_eq_true (by first | (with_reducible assumption) | assumption)
                                  have qBM : (ji33) < (x10_4.length : Int) := of_decide_eq_true (by first | (with_reducible assumption) | assumption)
                                  obtain ⟨adBM, ABM_0, cBM_0, eBM, hxBM_0, hlBM_0, hiBM_0⟩ := at_L1 (Kd.S_reads' HO_10.out).2.2 (ji33) pBM qBM
                                  cases eBM
                                  obtain ⟨ceBM, hceBM, hMeBM, hccBM⟩ := Kd.S_get HO_10.out [] (ji33) pBM (by first | exact qBM | exact of_decide_eq_true (by first | (with_reducible assumption) | assumption) | (have e_ := (Kd.S_reads' HO_10.out).1; omega))
                                  obtain ⟨veBM_0, rfl, geBM_0⟩ := hMeBM
                                  have hvBM_0 := hccBM 0 _ rfl
                                  rw [Nat.add_zero, show ((Kd.slice 3 (Kd.int .i64))).sz = 1 from rfl, Nat.mul_one] at hvBM_0
                                  replace hvBM_0 := Option.some.inj (hvBM_0.symm.trans hxBM_0)
                                  rw [hvBM_0] at geBM_0
                                  have HLBM_0 := Aside0.mk (show Kd.R (Kd.int .i64) 3 _ _ _ _ (rd_L1 x10_4 (ji33)) from geBM_0)
                                  clear hvBM_0 geBM_0
                                  have HXBM_0 := Aside0.mk hxBM_0
                                  clear hccBM hceBM
                                  have HRBM_0 := Aside0.mk hiBM_0
                                  have HCBM_0 := Aside0.mk hlBM_0
                                  clear hiBM_0 hlBM_0
                                  replace pBM := eq_true pBM
                                  replace qBM := eq_true qBM
                                  have pBN : 0 ≤ ((ji36) : Int) := of_decide_eq_true (by first | (with_reducible assumption) | assumption)
                                  have qBN : (ji36) < ((rd_L1 x10_4 (ji33)).length : Int) := of_decide_eq_true (by first | (with_reducible assumption) | assumption)
                                  obtain ⟨adBN, eBN, hxBN_0⟩ := Kd.at_int (by repeat (first | (with_reducible exact HRBM_0.out) | (with_reducible refine Kd.C_alloc ?_ _) | (with_reducible refine Kd.C_drewN ?_ _) | (with_reducible refine Kd.C_drew ?_) | exact HRBM_0.out)) (ji36) pBN qBN
                                  cases eBN
                                  replace pBN := eq_true pBN
                                  replace qBN := eq_true qBN
                                  refine start_ (n := 21) (S := fun w' => w'.cell? (adBM.add ((ji33)).toNat) = some (.slice (some adBN) (rd_L1 x10_4 (ji33)).length cBM_0) ∧ w'.cell? (adBN.add ((ji36)).toNat) = some (.int .i64 (rd (rd_L1 x10_4 (ji33)) (ji36)))) (ds := [20]) #[false, false, false, false, false, false, false, false, false, false, false, false, false, false, false, false, false, false, false, false, false] (by kernel_rfl) rfl rfl ⟨hxBM_0, hxBN_0⟩ (fun hHeld => ?_); refine with_tabW waysRound.tab28 waysRound.bits28 (fun HT_ HW_ => ?_)
                                  generalize wr.drew = w41 at HO_10 HB HLBM_0 HRBM_0 HXBM_0 hxBM_0 hxBN_0 hHeld ⊢
                                  refine pure_ (i := 0) (N := some 92) (v := ?_) (a' := ?_) #[true, false, false, false, false, false, false, false, false, false, false, false, false, false, false, false, false, false, false, false, false] rfl rfl (any_of HT_.out (by kernel_rfl)) (fun _ _ _ h => h) (Or.inl ⟨by rfl, ?_⟩) ?_ ?_
                                  rotate_left
                                  ·intro w'
                                   go_simp
                                   with_reducible rfl
                                  rotate_left
                                  ·simp only [Act.put, sA_, sB_, sC_, i64_w, i32_w]
                                   rfl
                                  refine pure_ (i := 1) (N := some 93) (v := ?_) (a' := ?_) #[true, true, false, false, false, false, false, false, false, false, false, false, false, false, false, false, false, false, false, false, false] rfl rfl (any_of HT_.out (by kernel_rfl)) (fun _ _ _ h => h) (Or.inl ⟨by rfl, ?_⟩) ?_ ?_
                                  rotate_left
                                  ·intro w'
                                   go_simp
                                   with_reducible rfl
                                  rotate_left
                                  ·simp only [Act.put, sA_, sB_, sC_, i64_w, i32_w]
                                   rfl
                                  refine pure_ (i := 2) (N := some 94) (v := ?_) (a' := ?_) #[true, true, true, false, false, false, false, false, false, false, false, false, false, false, false, false, false, false, false, false, false] rfl rfl (any_of HT_.out (by kernel_rfl)) (fun _ _ _ h => h) (Or.inl ⟨by rfl, ?_⟩) ?_ ?_
                                  rotate_left
                                  ·intro w'
                                   go_simp
                                   with_reducible rfl
                                  rotate_left
                                  ·simp only [Act.put, sA_, sB_, sC_, i64_w, i32_w]
                                   rfl
                                  refine pure_ (i := 3) (N := some 95) (v := ?_) (a' := ?_) #[true, true, true, true, false, false, false, false, false, false, false, false, false, false, false, false, false, false, false, false, false] rfl rfl (any_of HT_.out (by kernel_rfl)) (fun _ _ _ h => h) (Or.inl ⟨by rfl, ?_⟩) ?_ ?_
                                  rotate_left
                                  ·intro w'
                                   go_simp
                                   with_reducible rfl
                                  rotate_left
                                  ·simp only [Act.put, sA_, sB_, sC_, i64_w, i32_w]
                                   rfl
                                  refine pure_ (i := 4) (N := some 96) (v := ?_) (a' := ?_) #[true, true, true, true, true, false, false, false, false, false, false, false, false, false, false, false, false, false, false, false, false] rfl rfl (any_of HT_.out (by kernel_rfl)) (fun _ _ _ h => h) (Or.inl ⟨by rfl, ?_⟩) ?_ ?_
                                  rotate_left
                                  ·intro w'
                                   go_simp
                                   with_reducible rfl
                                  rotate_left
                                  ·simp only [Act.put, sA_, sB_, sC_, i64_w, i32_w]
                                   rfl
                                  refine pure_ (i := 6) (N := some 98) (v := ?_) (a' := ?_) #[true, true, true, true, true, false, true, false, false, false, false, false, false, false, false, false, false, false, false, false, false] rfl rfl (any_of HT_.out (by kernel_rfl)) (fun _ _ _ h => h) (Or.inl ⟨by rfl, ?_⟩) ?_ ?_
                                  rotate_left
                                  ·intro w'
                                   go_simp
                                   with_reducible rfl
                                  rotate_left
                                  ·simp only [Act.put, sA_, sB_, sC_, i64_w, i32_w]
                                   rfl
                                  refine pure_ (i := 7) (N := some 99) (v := ?_) (a' := ?_) #[true, true, true, true, true, false, true, true, false, false, false, false, false, false, false, false, false, false, false, false, false] rfl rfl (any_of HT_.out (by kernel_rfl)) (fun _ _ _ h => h) (Or.inl ⟨by rfl, ?_⟩) ?_ ?_
                                  rotate_left
                                  ·intro w'
                                   go_simp
                                   with_reducible rfl
                                  rotate_left
                                  ·simp only [Act.put, sA_, sB_, sC_, i64_w, i32_w]
                                   rfl
                                  refine pure_ (i := 8) (N := some 100) (v := ?_) (a' := ?_) #[true, true, true, true, true, false, true, true, true, false, false, false, false, false, false, false, false, false, false, false, false] rfl rfl (any_of HT_.out (by kernel_rfl)) (fun _ _ _ h => h) (Or.inl ⟨by rfl, ?_⟩) ?_ ?_
                                  rotate_left
                                  ·intro w'
                                   go_simp
                                   with_reducible rfl
                                  rotate_left
                                  ·simp only [Act.put, sA_, sB_, sC_, i64_w, i32_w]
                                   rfl
                                  refine pure_ (i := 11) (N := some 103) (v := ?_) (a' := ?_) #[true, true, true, true, true, false, true, true, true, false, false, true, false, false, false, false, false, false, false, false, false] rfl rfl (any_of HT_.out (by kernel_rfl)) (fun _ _ _ h => h) (Or.inl ⟨by rfl, ?_⟩) ?_ ?_
                                  rotate_left
                                  ·intro w'
                                   go_simp
                                   with_reducible rfl
                                  rotate_left
                                  ·simp only [Act.put, sA_, sB_, sC_, i64_w, i32_w]
                                   rfl
                                  refine pure_ (i := 12) (N := some 104) (v := ?_) (a' := ?_) #[true, true, true, true, true, false, true, true, true, false, false, true, true, false, false, false, false, false, false, false, false] rfl rfl (any_of HT_.out (by kernel_rfl)) (fun _ _ _ h => h) (Or.inl ⟨by rfl, ?_⟩) ?_ ?_
                                  rotate_left
                                  ·intro w'
                                   go_simp
                                   with_reducible rfl
                                  rotate_left
                                  ·simp only [Act.put, sA_, sB_, sC_, i64_w, i32_w]
                                   rfl
                                  refine pure_ (i := 13) (N := some 105) (v := ?_) (a' := ?_) #[true, true, true, true, true, false, true, true, true, false, false, true, true, true, false, false, false, false, false, false, false] rfl rfl (any_of HT_.out (by kernel_rfl)) (fun _ _ _ h => h) (Or.inl ⟨by rfl, ?_⟩) ?_ ?_
                                  rotate_left
                                  ·intro w'
                                   go_simp
                                   with_reducible rfl
                                  rotate_left
                                  ·simp only [Act.put, sA_, sB_, sC_, i64_w, i32_w]
                                   rfl
                                  refine pure_ (i := 14) (N := some 106) (v := ?_) (a' := ?_) #[true, true, true, true, true, false, true, true, true, false, false, true, true, true, true, false, false, false, false, false, false] rfl rfl (any_of HT_.out (by kernel_rfl)) (fun _ _ _ h => h) (Or.inl ⟨by rfl, ?_⟩) ?_ ?_
                                  rotate_left
                                  ·intro w'
                                   go_simp
                                   with_reducible rfl
                                  rotate_left
                                  ·simp only [Act.put, sA_, sB_, sC_, i64_w, i32_w]
                                   rfl
                                  refine pure_ (i := 15) (N := some 107) (v := ?_) (a' := ?_) #[true, true, true, true, true, false, true, true, true, false, false, true, true, true, true, true, false, false, false, false, false] rfl rfl (any_of HT_.out (by kernel_rfl)) (fun _ _ _ h => h) (Or.inl ⟨by rfl, ?_⟩) ?_ ?_
                                  rotate_left
                                  ·intro w'
                                   go_simp
                                   with_reducible rfl
                                  rotate_left
                                  ·simp only [Act.put, sA_, sB_, sC_, i64_w, i32_w]
                                   rfl
                                  refine take_ (i := 5) (N := some 97) (v := ?_) (a' := ?_) #[true, true, true, true, true, true, true, true, true, false, false, true, true, true, true, true, false, false, false, false, false] rfl rfl (take_ofW HT_.out HW_.out (by kernel_rfl)) (fun _ _ _ h => h) (Or.inl ⟨by rfl, ?_⟩) hHeld ?_ ?_
                                  rotate_left
                                  ·rintro w' ⟨s0, s1⟩
                                   go_simp
                                   with_reducible rfl
                                  rotate_left
                                  ·simp only [Act.put, sA_, sB_, sC_, i64_w, i32_w]
                                   rfl
                                  refine pure_ (i := 9) (N := some 101) (v := ?_) (a' := ?_) #[true, true, true, true, true, true, true, true, true, true, false, true, true, true, true, true, false, false, false, false, false] rfl rfl (any_of HT_.out (by kernel_rfl)) (fun _ _ _ h => h) (Or.inl ⟨by rfl, ?_⟩) ?_ ?_
                                  rotate_left
                                  ·intro w'
                                   go_simp
                                   with_reducible rfl
                                  rotate_left
                                  ·simp only [Act.put, sA_, sB_, sC_, i64_w, i32_w]
                                   rfl
                                  refine take_ (i := 10) (N := some 102) (v := ?_) (a' := ?_) #[true, true, true, true, true, true, true, true, true, true, true, true, true, true, true, true, false, false, false, false, false] rfl rfl (take_ofW HT_.out HW_.out (by kernel_rfl)) (fun _ _ _ h => h) (Or.inl ⟨by rfl, ?_⟩) hHeld ?_ ?_
                                  rotate_left
                                  ·rintro w' ⟨s0, s1⟩
                                   go_simp
                                   with_reducible rfl
                                  rotate_left
                                  ·simp only [Act.put, sA_, sB_, sC_, i64_w, i32_w]
                                   rfl
                                  refine one_ (i := 16) (N := some 108) #[true, true, true, true, true, true, true, true, true, true, true, true, true, true, true, true, true, false, false, false, false] rfl rfl (one_of HT_.out (by kernel_rfl)) (by decide) (fun K hK => ?_)
                                  refine goes_ Try.func66 (by kernel_rfl) rfl #[.int .i64 (wrap64 (a0 - x63_2)), .int .i64 x16_4] (by rfl) rfl rfl argS ?_
                                  with_reducible refine (impl_choose.calls k4 (wrap64 (a0 - x63_2)) x16_4 tBO _ A39.out).mono ?_
                                  rintro e w' ⟨rfl, ⟨nd, rfl⟩⟩
                                  refine ⟨_, rfl, ?_⟩
                                  have p40 : 0 ≤ ((ji36) : Int) := of_decide_eq_true (by first | (with_reducible assumption) | assumption)
                                  have q40 : ((ji36) : Int) < (((rd_L1 x10_4 (ji33)).length : Int) : Int) := of_decide_eq_true (by first | (with_reducible assumption) | assumption)
                                  obtain ⟨go40, co40, eo40, gb40, gl40, cl40, HG40⟩ := Kd.R_form HLBM_0.out (by omega)
                                  (first | cases eo40 | (injection eo40 with ea_ en_ ec_; (first | subst ea_ | (injection ea_ with ea_; subst ea_)); subst ec_; clear en_))
                                  have GB40 := Aside0.mk gb40
                                  have GG40 := Aside0.mk HG40
                                  clear gb40 gl40 HG40
                                  (first | simp only [add_plain] at hxBN_0 | skip)
                                  obtain ⟨hx40_0, hf40_0⟩ := Kd.R_celln 0 HLBM_0.out ((ji36) : Int) p40 q40
                                  replace p40 := eq_true p40
                                  replace q40 := eq_true q40
                                  have hq42 : ((ji33) : Int) < (x10_4.length : Int) := (by have h_ : ((ji33) : Int) < ((x10_4.length : Int) : Int) := of_decide_eq_true (by first | (with_reducible assumption) | assumption); first | exact h_ | (have e_ := (Kd.S_reads' HO_10.out).1; omega) | simpa only [List.length_set, List.length_set] using h_)
                                  obtain ⟨oki42, ce42, hcl42, hM42, hcc42, hok42, hbk42⟩ := Kd.S_borrow HO_10.out [] ((ji33) : Int) (of_decide_eq_true (by first | (with_reducible assumption) | assumption)) hq42
                                  obtain ⟨ve42_0, rfl, ge42_0⟩ := hM42
                                  have hv42 := hcc42 0 _ rfl
                                  rw [Nat.add_zero, show ((Kd.slice 3 (Kd.int .i64))).sz = 1 from rfl, Nat.mul_one] at hv42
                                  replace hv42 := Option.some.inj (hv42.symm.trans HXBM_0.out)
                                  subst hv42
                                  clear hcc42 hcl42
                                  replace ge42_0 := (show Kd.R (Kd.int .i64) 3 _ _ _ _ (rd_L1 x10_4 (ji33)) from ge42_0)
                                  have HP42 := Kd.R_putg ge42_0 ((ji36) : Int) (wrap64 ((rd (rd_L1 x10_4 (ji33)) (ji36)) + (wrap64 ((rd (rd_L1 x7_2 x63_2) x70_3) * tBO))))
                                  rw [← NyBP.out] at HP42
                                  have HS42 := hbk42 HP42.2 (fun k_ e_ => by injection e_ with e_; subst e_; exact ge42_0.1 _ rfl) (x' := yBP) (Kd.M_row HP42.1)
                                  rw [← NyBR.out] at HS42
                                  have HQ42 := Aside0.mk HS42
                                  clear HP42 HS42 hbk42 hok42
                                  refine hK.out _ _ ⟨hHeld.1, hHeld.2⟩ (fun hHeld => ?_)
                                  clear hK K
                                  refine norm_ (a' := ?_) ?_ ?_
                                  rotate_left
                                  ·show Act.put _ (some 108) _ = _
                                   simp only [Act.put, sA_, sB_, sC_, i64_w, i32_w]
                                   rfl
                                  refine pure_ (i := 17) (N := some 109) (v := ?_) (a' := ?_) #[true, true, true, true, true, true, true, true, true, true, true, true, true, true, true, true, true, true, false, false, false] rfl rfl (any_of HT_.out (by kernel_rfl)) (fun _ _ _ h => h) (Or.inl ⟨by rfl, ?_⟩) ?_ ?_
                                  rotate_left
                                  ·intro w'
                                   go_simp
                                   with_reducible rfl
                                  rotate_left
                                  ·simp only [Act.put, sA_, sB_, sC_, i64_w, i32_w]
                                   rfl
                                  refine pure_ (i := 18) (N := some 110) (v := ?_) (a' := ?_) #[true, true, true, true, true, true, true, true, true, true, true, true, true, true, true, true, true, true, true, false, false] rfl rfl (any_of HT_.out (by kernel_rfl)) (fun _ _ _ h => h) (Or.inl ⟨by rfl, ?_⟩) ?_ ?_
                                  rotate_left
                                  ·intro w'
                                   go_simp
                                   with_reducible rfl
                                  rotate_left
                                  ·simp only [Act.put, sA_, sB_, sC_, i64_w, i32_w]
                                   rfl
                                  refine pure_ (i := 19) (N := some 111) (v := ?_) (a' := ?_) #[true, true, true, true, true, true, true, true, true, true, true, true, true, true, true, true, true, true, true, true, false] rfl rfl (any_of HT_.out (by kernel_rfl)) (fun _ _ _ h => h) (Or.inl ⟨by rfl, ?_⟩) ?_ ?_
                                  rotate_left
                                  ·intro w'
                                   go_simp
                                   with_reducible rfl
                                  rotate_left
                                  ·simp only [Act.put, sA_, sB_, sC_, i64_w, i32_w]
                                   rfl
                                  refine last_ (i := 20) (N := none) #[true, true, true, true, true, true, true, true, true, true, true, true, true, true, true, true, true, true, true, true, true] rfl rfl (one_of HT_.out (by kernel_rfl)) (by decide) (fun K hK => ?_)
                                  refine skip_ (w1 := ?_) (by rfl) rfl ?_ ?_
                                  rotate_left
                                  ·go_simp
                                   rfl
                                  refine hK.out _ _ ?_
                                  clear hK K
                                  refine done_ (done_of HT_.out (by kernel_rfl)) ?_
                                  try go_wp2
                                  (try simp only [← hl10_4])
                                  go_roundg k4
                                  case measure => have := HK1.out; have := HK2.out; have := HK3.out; have := HK4.out; omega
                                  case rel => exact ⟨(yBR), (wrap64 (x16_4 + 1)), (by first | rfl | (simp; done) | (simp [*]; done)), H', ⟨by have := HK1.out; have := HK2.out; have := HK3.out; have := HK4.out; omega⟩, ⟨by (try simp only [hl10_1]); (try simp only [hl10_2]); (try simp only [hl10_3]); (try simp only [hl10_4]); (with_reducible repeat (first | apply Kd.S_alloc | apply Kd.S_drewN | apply Kd.S_drew)); exact HQ42.out⟩, ⟨by exact belS⟩⟩
                                 ·rw [if_neg c38] at H
                                  exact absurd H (by simp)
                                ·rw [if_neg c37] at H
                                 exact absurd H (by simp)
                               ·rw [if_neg c35] at H
                                exact absurd H (by simp)
                              ·rw [if_neg c34] at H
                               exact absurd H (by simp)
                             ·rw [if_neg c30] at H
                              have c30b0 : decide ((wrap64 (x63_2 + x16_4)) ≤ a0) = false := decide_eq_false c30
                              clear c30
                              have H' := Aside0.mk H
                              clear H
                              go_wp2
                              (try simp only [← hl10_3, ← hl10_4])
                              go_roundg k4
                              case measure => have := HK1.out; have := HK2.out; have := HK3.out; have := HK4.out; omega
                              case rel => exact ⟨(x10_4), (wrap64 (x70_3 + 1)), (by first | rfl | (simp; done) | (simp [*]; done)), H', ⟨by have := HK1.out; have := HK2.out; have := HK3.out; have := HK4.out; omega⟩, ⟨by (try simp only [hl10_1]); (try simp only [hl10_2]); (try simp only [hl10_3]); (try simp only [hl10_4]); (with_reducible repeat (first | apply Kd.S_alloc | apply Kd.S_drewN | apply Kd.S_drew)); exact HO_10.out⟩, ⟨by exact belS⟩⟩
                         ·rw [if_neg c28] at H
                          exact absurd H (by simp)
                        ·rw [if_neg c27] at H
                         exact absurd H (by simp)
                       ·rw [if_neg c26] at H
                        have c26b0 : decide (x70_3 < ((rd_L1 x7_2 x63_2).length : Int)) = false := decide_eq_false c26
                        clear c26
                        have H' := Aside0.mk H
                        clear H
                        go_wp2
                        (try simp only [← hl10_2, ← hl10_3])
                        go_roundg k3
                        case measure => have := HK1.out; have := HK2.out; have := HK3.out; omega
                        case rel => exact ⟨(x10_3), (wrap64 (x63_2 + 1)), (by first | rfl | (simp; done) | (simp [*]; done)), H', ⟨by have := HK1.out; have := HK2.out; have := HK3.out; omega⟩, ⟨by (try simp only [hl10_1]); (try simp only [hl10_2]); (try simp only [hl10_3]); (with_reducible repeat (first | apply Kd.S_alloc | apply Kd.S_drewN | apply Kd.S_drew)); exact HO_10.out⟩, ⟨by exact belS⟩⟩
                    ·rw [if_neg c25] at H
                     exact absurd H (by simp)
                   ·rw [if_neg c24] at H
                    exact absurd H (by simp)
                  ·rw [if_neg c23] at H
                   have c23b0 : decide (x63_2 < (x7_2.length : Int)) = false := decide_eq_false c23
                   clear c23
                   obtain rfl := Option.some.inj H
                   go_wp2
                   go_roundg m2
                   case measure => have := MK1.out; have := MK2.out; omega
                   case rel => exact ⟨_, (wrap64 (x9_2 - 1)), (by first | rfl | (simp; done) | (simp [*]; done)), HM, ⟨by have := MK1.out; have := MK2.out; omega⟩, ⟨by (try simp only [hl10_1]); (try simp only [hl10_2]); (with_reducible repeat (first | apply Kd.S_alloc | apply Kd.S_drewN | apply Kd.S_drew)); exact Kd.S_lower HO_10.out HBM.out.size⟩, ⟨below_then HBM.out HBM.out.size (by exact belS)⟩⟩
            ·rw [if_neg c8] at H
             exact absurd H (by simp)
           ·rw [if_neg c7] at H
            exact absurd H (by simp)
          ·rw [if_neg c26] at H
           have c26b0 : decide (1 ≤ x9_2) = false := decide_eq_false c26
           clear c26
           by_cases c30 : 0 ≤ a0
           ·rw [if_pos c30] at H
            have c30b0 : decide (0 ≤ a0) = true := decide_eq_true c30
            clear c30
            by_cases c31 : a0 < (x7_2.length : Int)
            ·rw [if_pos c31] at H
             have c31b0 : decide (a0 < (x7_2.length : Int)) = true := decide_eq_true c31
             clear c31
             obtain rfl := Option.some.inj H
             obtain ⟨Ao32, co32, eo32⟩ := Kd.S_slice HO_7.out
             subst eo32
             have pBR : 0 ≤ (a0 : Int) := of_decide_eq_true (by first | (with_reducible assumption) | assumption)
             have qBR : a0 < (x7_2.length : Int) := of_decide_eq_true (by first | (with_reducible assumption) | assumption)
             obtain ⟨adBR, ABR_0, cBR_0, eBR, hxBR_0, hlBR_0, hiBR_0⟩ := at_L1 (Kd.S_reads' HO_7.out).2.2 a0 pBR qBR
             cases eBR
             obtain ⟨ceBR, hceBR, hMeBR, hccBR⟩ := Kd.S_get HO_7.out [] a0 pBR (by first | exact qBR | exact of_decide_eq_true (by first | (with_reducible assumption) | assumption) | (have e_ := (Kd.S_reads' HO_7.out).1; omega))
             obtain ⟨veBR_0, rfl, geBR_0⟩ := hMeBR
             have hvBR_0 := hccBR 0 _ rfl
             rw [Nat.add_zero, show ((Kd.slice 3 (Kd.int .i64))).sz = 1 from rfl, Nat.mul_one] at hvBR_0
             replace hvBR_0 := Option.some.inj (hvBR_0.symm.trans hxBR_0)
             rw [hvBR_0] at geBR_0
             have HLBR_0 := Aside0.mk (show Kd.R (Kd.int .i64) 3 _ _ _ _ (rd_L1 x7_2 a0) from geBR_0)
             clear hvBR_0 geBR_0
             have HXBR_0 := Aside0.mk hxBR_0
             clear hccBR hceBR
             have HRBR_0 := Aside0.mk hiBR_0
             have HCBR_0 := Aside0.mk hlBR_0
             clear hiBR_0 hlBR_0
             replace pBR := eq_true pBR
             replace qBR := eq_true qBR
             go_wp2
             go_ret
             exact ⟨_, by first | rfl | (simp [errW_none, errW_some] <;> rfl) | (simp only [← hji4]; first | rfl | (simp [errW_none, errW_some] <;> rfl)) | (simp [*, errW_none, errW_some] <;> rfl), by (with_reducible repeat (first | apply Kd.R_alloc | apply Kd.R_drewN | apply Kd.R_drew)); exact Kd.R_mono HLBR_0.out (fun _ hk => trivial), by exact belS⟩
            ·rw [if_neg c31] at H
             exact absurd H (by simp)
           ·rw [if_neg c30] at H
            exact absurd H (by simp)
       ·rw [if_neg c22] at H
        exact absurd H (by simp)
      ·rw [if_neg c21] at H
       exact absurd H (by simp)
  ·rw [if_neg c6] at H
   exact absurd H (by simp)
 ·rw [if_neg c5] at H
  exact absurd H (by simp)

end Go.Proofs.Yteiceakgiilbgaa.Pr
