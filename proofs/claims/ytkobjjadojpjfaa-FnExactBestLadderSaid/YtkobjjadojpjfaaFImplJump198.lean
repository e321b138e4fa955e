-- A text of the machine side, written by wip/gen.py of this repo out of the translation. Not trusted: Lean checks it.
import Derived.Test.YtkobjjadojpjfaaF0
import Derived.Test.YtkobjjadojpjfaaFImplJump213
import Derived.Test.YtkobjjadojpjfaaHFvJ
namespace Go.Proofs.Ytkobjjadojpjfaa.Pr
open Go.RowKit Go.Proofs.YtkobjjadojpjfaaW.PrintWords Go.Proofs.YtkobjjadojpjfaaW.PrintLast Go.Proofs.YtkobjjadojpjfaaW.PrintMore
attribute [local go_sem] max2_int min2_int max_two min_two max_three min_three max_four min_four   -- for this text's walks alone
set_option linter.unusedVariables false
set_option linter.unusedSimpArgs false

/-! ### impl_Jump_198: function 198 -/
def impl_Jump_198.l0 : Nat → List (S27) → FvJ → Int → Int → Option ((List (S27)))
 | 0, _, _, _, _ => none
 | k + 1, x0, x1, x5, x6 => if x6 < (x0.length : Int) then (if 0 ≤ x6 then ((fvJ_.f x1 ((rd_T27 x0 x6).f0) ((rd_T27 x0 x6).f1)).bind fun tBG => (if tBG = true then (impl_Jump_198.l0 k x0 x1 x5 (wrap64 (x6 + 1))) else (if 0 ≤ x5 then (if x5 < (x0.length : Int) then (impl_Jump_198.l0 k (x0.set (x5 : Int).toNat (⟨(rd_T27 x0 x6).f0, (rd_T27 x0 x6).f1⟩ : S27)) x1 (wrap64 (x5 + 1)) (wrap64 (x6 + 1))) else (none)) else (none)))) else (none)) else (if 0 ≤ x5 then (if x5 ≤ (x0.length : Int) then (some (x0.take (x5 : Int).toNat)) else (none)) else (none))
def impl_Jump_198.f (k : Nat) (l0 : List (S27)) (a1 : FvJ) : Option ((List (S27))) := (impl_Jump_213.f k l0 a1).bind fun tBD => (if tBD = (-1) then (some l0) else (impl_Jump_198.l0 k l0 a1 tBD (wrap64 (tBD + 1))))
set_option maxHeartbeats 8000000 in
set_option maxRecDepth 100000 in
theorem impl_Jump_198.calls (k : Nat) (P0_ : Nat → Prop) (u9000_ : Value) (l0 : List (S27)) (a1 : FvJ) (r : List (S27)) (w0 w : World) (hB : Below w0.heap.size w0 w) (ho0 : Kd.R k27 27 w w0.heap.size P0_ u9000_ l0) (h : impl_Jump_198.f k l0 a1 = some r) (hp : FvJ.Ok a1 w0) :
  Calls Try.prog 198 #[u9000_, FvJ.v a1] w fun e w' => ∃ v0_ : Value, e = .returned (v0_) ∧ Kd.R k27 27 w' w0.heap.size (fun k_ => (P0_ k_ ∨ w.heap.size ≤ k_)) v0_ r ∧ Below w0.heap.size w0 w' ∧ Kept w w' (fun k_ => P0_ k_) := by
 have HP := Am hp
 clear hp
 have hu27 := Try.underlying27
 have HO0 := Am (show Kd.R k27 27 w w0.heap.size (fun k_ => (P0_ k_ ∨ w.heap.size ≤ k_)) u9000_ l0 from Kd.R_mono ho0 (fun k_ hk => (.inl hk)))
 have HK := Am (Kept.refl w (fun k_ => P0_ k_))
 have HW0 := Am hB.size
 have HB := Am hB
 clear hB
 have H : ((impl_Jump_213.f k l0 a1).bind fun tBD => (if tBD = (-1) then (some l0) else (impl_Jump_198.l0 k l0 a1 tBD (wrap64 (tBD + 1))))) = some r := h
 clear h
 replace H := Option.bind_eq_some_iff.mp H
 obtain ⟨tBD, A30, H⟩ := H
 replace H : (if tBD = (-1) then (some l0) else (impl_Jump_198.l0 k l0 a1 tBD (wrap64 (tBD + 1)))) = some r := H
 have A3 := Am A30
 clear A30
 by_cases c4 : tBD = (-1)
 ·rw [if_pos c4] at H
  have c4b0 : (tBD == (-1)) = true := beq_iff_eq.mpr c4
  have c4b1 : (tBD != (-1)) = false := bne_eq_false_iff_eq.mpr c4
  clear c4
  obtain rfl := Option.some.inj H
  obtain ⟨Ao5, co5, eo5⟩ := Kd.R_slice HO0.out
  subst eo5
  go_enter Try.func198, Try.ntmps198
  go_wp2_with (first | ((with_reducible refine gate_callee (f := 213) rfl ?_); refine goesL_ (some 10) rfl rfl Try.func213 (by kernel_rfl) rfl #[.slice Ao5 l0.length co5, FvJ.v a1] rfl argS ?_; (with_reducible refine (impl_Jump_213.calls k _ _ l0 a1 tBD _ ?side1 ?side2 A3.out (HP.out.up belS)).mono ?_); (case side1 => exact Kd.C_up (Kd.R_reads' HO0.out).2.2); (case side2 => exact (Kd.R_reads' HO0.out).2.1); rintro e w6 ⟨rfl, hb⟩; refine ⟨_, rfl, ?_⟩; have n0_ := Am (Kd.R_below (Kd.R_up HO0.out) hb); have n1_ := Am (Kept.below (S := (fun k_ => P0_ k_)) (by repeat (first | (with_reducible first | exact HK.out | apply Kept.alloc | apply Kept.drewN | apply Kept.drew) | exact HK.out)) hb); have n2_ := Am (below_step belS hb); clear HO0 HK HB; revert n0_ n1_ n2_; intro HO0 HK HB; (try clear hb)))
  go_ret
  exact ⟨_, rfE, by (with_reducible repeat (first | apply Kd.R_alloc | apply Kd.R_drewN | apply Kd.R_drew)); exact HO0.out, by exact belS, by repeat (first | (with_reducible first | exact HK.out | apply Kept.alloc | apply Kept.drewN | apply Kept.drew) | exact HK.out)⟩
 ·rw [if_neg c4] at H
  have c4b0 : (tBD == (-1)) = false := beq_eq_false_iff_ne.mpr c4
  have c4b1 : (tBD != (-1)) = true := bne_iff_ne.mpr c4
  have H' := Am H
  clear H
  obtain ⟨Ao7, co7, eo7⟩ := Kd.R_slice HO0.out
  subst eo7
  go_enter Try.func198, Try.ntmps198
  go_wp2_with (first | ((with_reducible refine gate_callee (f := 213) rfl ?_); refine goesL_ (some 10) rfl rfl Try.func213 (by kernel_rfl) rfl #[.slice Ao7 l0.length co7, FvJ.v a1] rfl argS ?_; (with_reducible refine (impl_Jump_213.calls k _ _ l0 a1 tBD _ ?side1 ?side2 A3.out (HP.out.up belS)).mono ?_); (case side1 => exact Kd.C_up (Kd.R_reads' HO0.out).2.2); (case side2 => exact (Kd.R_reads' HO0.out).2.1); rintro e w8 ⟨rfl, hb⟩; refine ⟨_, rfl, ?_⟩; have n0_ := Am (Kd.R_below (Kd.R_up HO0.out) hb); have n1_ := Am (Kept.below (S := (fun k_ => P0_ k_)) (by repeat (first | (with_reducible first | exact HK.out | apply Kept.alloc | apply Kept.drewN | apply Kept.drew) | exact HK.out)) hb); have n2_ := Am (below_step belS hb); clear HO0 HK HB; revert n0_ n1_ n2_; intro HO0 HK HB; (try clear hb)))
  go_loopg [5, 6] k (fun kq v5 v6 w' => ∃ (x0_1 : List (S27)) (x5_1 : Int) (x6_1 : Int), v5 = .int .i64 x5_1 ∧ v6 = .int .i64 x6_1 ∧ Aside0 (impl_Jump_198.l0 kq x0_1 a1 x5_1 x6_1 = some r) ∧ Aside0 (kq ≤ k) ∧ Aside0 (Kd.R k27 27 w' w0.heap.size (fun k_ => (P0_ k_ ∨ w.heap.size ≤ k_)) (.slice Ao7 l0.length co7) x0_1) ∧ Aside0 (Kept w w' (fun k_ => P0_ k_)) ∧ Aside0 (Below w0.heap.size w0 w'))
  case atStart => exact ⟨(l0), (tBD), (wrap64 (tBD + 1)), rfS, rfS, H', ⟨Nat.le_refl _⟩, ⟨by first | exact Kd.R_up HO0.out | exact HO0.out⟩, ⟨by repeat (first | (with_reducible first | exact HK.out | apply Kept.alloc | apply Kept.drewN | apply Kept.drew) | exact HK.out)⟩, ⟨by exact belS⟩⟩
  case round =>
   clear H'
   try clear c4
   try clear c4b0
   try clear c4b1
   obtain ⟨x0_1, x5_1, x6_1, rfl, rfl, HA, HK1, HO_0, HK, HB⟩ := hrel
   have hl0_1 := (Kd.R_reads' HO_0.out).1
   rw [hl0_1] at HO_0
   (try simp only [hl0_1])
   cases gk with
   | zero => exact absurd HA.out (by simp [impl_Jump_198.l0])
   | succ k1 =>
    have H := HA.out
    clear HA
    simp only [impl_Jump_198.l0] at H
    by_cases c9 : x6_1 < (x0_1.length : Int)
    ·rw [if_pos c9] at H
     have c9b0 : decide (x6_1 < (x0_1.length : Int)) = true := decide_eq_true c9
     (try (have c9b0z := c9b0; rw [hl0_1] at c9b0z))
     clear c9
     by_cases c10 : 0 ≤ x6_1
     ·rw [if_pos c10] at H
      have c10b0 : decide (0 ≤ x6_1) = true := decide_eq_true c10
      clear c10
      replace H := Option.bind_eq_some_iff.mp H
      obtain ⟨tBG, A110, H⟩ := H
      replace H : (if tBG = true then (impl_Jump_198.l0 k1 x0_1 a1 x5_1 (wrap64 (x6_1 + 1))) else (if 0 ≤ x5_1 then (if x5_1 < (x0_1.length : Int) then (impl_Jump_198.l0 k1 (x0_1.set (x5_1 : Int).toNat (⟨(rd_T27 x0_1 x6_1).f0, (rd_T27 x0_1 x6_1).f1⟩ : S27)) a1 (wrap64 (x5_1 + 1)) (wrap64 (x6_1 + 1))) else (none)) else (none))) = some r := H
      have A11 := Am A110
      clear A110
      by_cases c12 : tBG = true
      ·subst c12
       have H1 : (impl_Jump_198.l0 k1 x0_1 a1 x5_1 (wrap64 (x6_1 + 1))) = some r := by rw [if_pos rfl] at H; exact H
       clear H
       have H := H1
       clear H1
       have H' := Am H
       clear H
       have pBE : 0 ≤ (x6_1 : Int) := ofd
       have qBE : x6_1 < (x0_1.length : Int) := ofd
       obtain ⟨adBE, eBE, hxBE_0, hxBE_1⟩ := at_T27 (Kd.R_reads' HO_0.out).2.2 x6_1 pBE qBE
       cases eBE
       replace pBE := eq_true pBE
       replace qBE := eq_true qBE
       go_wp2_with (first | ((with_reducible refine gate_dst (N := 7) rfl ?_); refine box_event (by rfl) (N := 7) (by rfl) (cs := #[.int .i64 0, .int .i64 0]) (t := 27) hrS ?_; intro gbBF hg w13 hbox hb; have n0_ := Am (Kd.R_below (Kd.R_elderB (Kd.R_up HO_0.out) gbBF (Nat.le_of_eq hg.symm)) hb); have n1_ := Am (Kept.below (S := (fun k_ => P0_ k_)) (by repeat (first | (with_reducible first | exact HK.out | apply Kept.alloc | apply Kept.drewN | apply Kept.drew) | exact HK.out)) hb); have n2_ := Am (below_step belS hb); have n3_ := Am (hbox); have n4_ := Am ((by rw [hg]; exact (by first | exact HK.out.1 | exact (show Kept w _ (fun k_ => P0_ k_) from by repeat (first | (with_reducible first | exact HK.out | apply Kept.alloc | apply Kept.drewN | apply Kept.drew) | exact HK.out)).1) : w.heap.size ≤ gbBF)); have n5_ := Am (geS hg : w0.heap.size ≤ gbBF); clear HO_0 HK HB; revert n0_ n1_ n2_ n3_ n4_ n5_; intro HO_0 HK HB BKBF GWBF GEBF; clear hb hbox hg; obtain ⟨hcz14_0, hcz14_1, hfz14_0, hfz14_1⟩ := blk2 BKBF.out) | ((with_reducible refine gate_dst (N := 28) rfl ?_); refine goesV_ (some 28) rfl rfl HP.out.eg #[.agg #[.int .i64 ((rd_T27 x0_1 x6_1).f0), .int .i64 ((rd_T27 x0_1 x6_1).f1)]] rfl (by first | rfl | (go_simp; rfl)) argS ?_; (with_reducible refine (HP.out.go _ ((rd_T27 x0_1 x6_1).f0) ((rd_T27 x0_1 x6_1).f1) true belS A11.out).mono ?_); rintro e w15 ⟨rfl, hb⟩; refine ⟨_, rfl, ?_⟩; have n0_ := Am (Kd.R_below (by (with_reducible repeat (first | apply Kd.R_alloc | apply Kd.R_drewN | apply Kd.R_drew)); exact (Kd.R_mono (Kd.R_far (p := ⟨gbBF, 1, none⟩) (Kd.R_far (p := ⟨gbBF, 0, none⟩) (Kd.R_mono HO_0.out (fun k_ hk => (⟨hk, hk.2⟩ : _ ∧ k_ ≠ gbBF))) (fun _ hk => hk.2) (.int .i64 ((rd_T27 x0_1 x6_1).f0))) (fun _ hk => hk.2) (.int .i64 ((rd_T27 x0_1 x6_1).f1))) (fun _ h_ => h_.1))) hb); have n1_ := Am (blk_below (g := gbBF) (o := .cells #[.int .i64 ((rd_T27 x0_1 x6_1).f0), .int .i64 ((rd_T27 x0_1 x6_1).f1)] 27 (0, 0)) (by (with_reducible repeat (first | refine blk_drewN ?_ _ | refine blk_drew ?_ | refine blk_alloc ?_ _)); refine blk_put (cs := #[.int .i64 ((rd_T27 x0_1 x6_1).f0), .int .i64 0]) ?_ 1 _ rfl; refine blk_putU (cs := #[.int .i64 0, .int .i64 0]) ?_ 0 _ rfl; exact BKBF.out) hb); have n2_ := Am (Kept.below (S := (fun k_ => P0_ k_)) (by repeat (first | (with_reducible first | exact HK.out | apply Kept.alloc | apply Kept.drewN | apply Kept.drew | refine Kept.setCell ?_ (.inr GWBF.out) _) | exact HK.out)) hb); have n3_ := Am (below_step belS hb); clear HO_0 BKBF HK HB; revert n0_ n1_ n2_ n3_; intro HO_0 BKBF HK HB; (try clear hb); (try clear hk)))
       (try simp only [← hl0_1])
       go_roundg k1
       case measure => have := HK1.out; omega
       case rel => exact ⟨(x0_1), (x5_1), (wrap64 (x6_1 + 1)), rfS, rfS, H', ⟨by have := HK1.out; omega⟩, ⟨by (try simp only [hl0_1]); (with_reducible repeat (first | apply Kd.R_alloc | apply Kd.R_drewN | apply Kd.R_drew)); exact Kd.R_mono HO_0.out (fun _ hk => hk.1)⟩, ⟨by repeat (first | (with_reducible first | exact HK.out | apply Kept.alloc | apply Kept.drewN | apply Kept.drew | refine Kept.setCell ?_ (.inr GWBF.out) _) | exact HK.out)⟩, ⟨by exact belS⟩⟩
      ·replace c12 := Bool.eq_false_iff.mpr c12
       subst c12
       have H1 : (if 0 ≤ x5_1 then (if x5_1 < (x0_1.length : Int) then (impl_Jump_198.l0 k1 (x0_1.set (x5_1 : Int).toNat (⟨(rd_T27 x0_1 x6_1).f0, (rd_T27 x0_1 x6_1).f1⟩ : S27)) a1 (wrap64 (x5_1 + 1)) (wrap64 (x6_1 + 1))) else (none)) else (none)) = some r := by rw [if_neg (show ¬ (false = true) by decide)] at H; exact H
       clear H
       have H := H1
       clear H1
       by_cases c16 : 0 ≤ x5_1
       ·rw [if_pos c16] at H
        have c16b0 : decide (0 ≤ x5_1) = true := decide_eq_true c16
        clear c16
        by_cases c17 : x5_1 < (x0_1.length : Int)
        ·rw [if_pos c17] at H
         have c17b0 : decide (x5_1 < (x0_1.length : Int)) = true := decide_eq_true c17
         (try (have c17b0z := c17b0; rw [hl0_1] at c17b0z))
         clear c17
         obtain ⟨yBH, hyBH⟩ : ∃ y_ : List (S27), y_ = (x0_1.set (x5_1 : Int).toNat (⟨(rd_T27 x0_1 x6_1).f0, (rd_T27 x0_1 x6_1).f1⟩ : S27)) := ⟨_, rfl⟩
         replace H : (impl_Jump_198.l0 k1 yBH a1 (wrap64 (x5_1 + 1)) (wrap64 (x6_1 + 1))) = some r := by first | (rw [hyBH]; with_reducible exact H) | (have H2_ := (Option.bind_some _ _).symm.trans H; rw [hyBH]; with_reducible exact H2_) | (have H2_ := (Option.bind_some _ _).symm.trans H; with_reducible exact H2_) | with_reducible exact H | (rw [hyBH]; exact H) | exact H
         have NyBH := Am hyBH
         clear hyBH
         have H' := Am H
         clear H
         have pBE : 0 ≤ (x6_1 : Int) := ofd
         have qBE : x6_1 < (x0_1.length : Int) := ofd
         obtain ⟨adBE, eBE, hxBE_0, hxBE_1⟩ := at_T27 (Kd.R_reads' HO_0.out).2.2 x6_1 pBE qBE
         cases eBE
         replace pBE := eq_true pBE
         replace qBE := eq_true qBE
         go_wp2_with (first | ((with_reducible refine gate_dst (N := 7) rfl ?_); refine box_event (by rfl) (N := 7) (by rfl) (cs := #[.int .i64 0, .int .i64 0]) (t := 27) hrS ?_; intro gbBF hg w19 hbox hb; have n0_ := Am (Kd.R_below (Kd.R_elderB (Kd.R_up HO_0.out) gbBF (Nat.le_of_eq hg.symm)) hb); have n1_ := Am (Kept.below (S := (fun k_ => P0_ k_)) (by repeat (first | (with_reducible first | exact HK.out | apply Kept.alloc | apply Kept.drewN | apply Kept.drew) | exact HK.out)) hb); have n2_ := Am (below_step belS hb); have n3_ := Am (hbox); have n4_ := Am ((by rw [hg]; exact (by first | exact HK.out.1 | exact (show Kept w _ (fun k_ => P0_ k_) from by repeat (first | (with_reducible first | exact HK.out | apply Kept.alloc | apply Kept.drewN | apply Kept.drew) | exact HK.out)).1) : w.heap.size ≤ gbBF)); have n5_ := Am (geS hg : w0.heap.size ≤ gbBF); clear HO_0 HK HB; revert n0_ n1_ n2_ n3_ n4_ n5_; intro HO_0 HK HB BKBF GWBF GEBF; clear hb hbox hg; obtain ⟨hcz20_0, hcz20_1, hfz20_0, hfz20_1⟩ := blk2 BKBF.out) | ((with_reducible refine gate_dst (N := 28) rfl ?_); refine goesV_ (some 28) rfl rfl HP.out.eg #[.agg #[.int .i64 ((rd_T27 x0_1 x6_1).f0), .int .i64 ((rd_T27 x0_1 x6_1).f1)]] rfl (by first | rfl | (go_simp; rfl)) argS ?_; (with_reducible refine (HP.out.go _ ((rd_T27 x0_1 x6_1).f0) ((rd_T27 x0_1 x6_1).f1) false belS A11.out).mono ?_); rintro e w21 ⟨rfl, hb⟩; refine ⟨_, rfl, ?_⟩; have n0_ := Am (Kd.R_below (by (with_reducible repeat (first | apply Kd.R_alloc | apply Kd.R_drewN | apply Kd.R_drew)); exact (Kd.R_mono (Kd.R_far (p := ⟨gbBF, 1, none⟩) (Kd.R_far (p := ⟨gbBF, 0, none⟩) (Kd.R_mono HO_0.out (fun k_ hk => (⟨hk, hk.2⟩ : _ ∧ k_ ≠ gbBF))) (fun _ hk => hk.2) (.int .i64 ((rd_T27 x0_1 x6_1).f0))) (fun _ hk => hk.2) (.int .i64 ((rd_T27 x0_1 x6_1).f1))) (fun _ h_ => h_.1))) hb); have n1_ := Am (blk_below (g := gbBF) (o := .cells #[.int .i64 ((rd_T27 x0_1 x6_1).f0), .int .i64 ((rd_T27 x0_1 x6_1).f1)] 27 (0, 0)) (by (with_reducible repeat (first | refine blk_drewN ?_ _ | refine blk_drew ?_ | refine blk_alloc ?_ _)); refine blk_put (cs := #[.int .i64 ((rd_T27 x0_1 x6_1).f0), .int .i64 0]) ?_ 1 _ rfl; refine blk_putU (cs := #[.int .i64 0, .int .i64 0]) ?_ 0 _ rfl; exact BKBF.out) hb); have n2_ := Am (Kept.below (S := (fun k_ => P0_ k_)) (by repeat (first | (with_reducible first | exact HK.out | apply Kept.alloc | apply Kept.drewN | apply Kept.drew | refine Kept.setCell ?_ (.inr GWBF.out) _) | exact HK.out)) hb); have n3_ := Am (below_step belS hb); clear HO_0 BKBF HK HB; revert n0_ n1_ n2_ n3_; intro HO_0 BKBF HK HB; (try clear hb); (try clear hk); obtain ⟨hcz22_0, hcz22_1, hfz22_0, hfz22_1⟩ := blk2 BKBF.out; have p18 : 0 ≤ (x5_1 : Int) := ofd; have q18 : (x5_1 : Int) < ((x0_1.length : Int) : Int) := ofd; obtain ⟨go18, co18, eo18, gb18, gl18, cl18, HG18⟩ := Kd.R_form HO_0.out (by omega); (first | cases eo18 | (injection eo18 with ea_ en_ ec_; (first | subst ea_ | (injection ea_ with ea_; subst ea_)); subst ec_; clear en_)); have GB18 := Am gb18; have GG18 := Am HG18; clear gb18 gl18 HG18; have HMgo18 := Am (show (P0_ go18 ∨ w.heap.size ≤ go18) from (HO_0.out.1 _ rfl).1); (first | simp only [add_plain] at hxBE_0 | skip); (first | simp only [add_plain] at hxBE_1 | skip); obtain ⟨ce18, hcl18, hM18, hcc18, hfr18⟩ := Kd.R_elem HO_0.out z27 (x5_1 : Int) p18 q18; obtain rfl := k27_openM hM18; have hx18_0 : w21.cell? ⟨go18, (x5_1 : Int).toNat * 2, none⟩ = some (.int .i64 ((rd_T27 x0_1 x5_1).f0)) := hcc18 0 _ rfl; have hx18_1 : w21.cell? ⟨go18, (x5_1 : Int).toNat * 2 + 1, none⟩ = some (.int .i64 ((rd_T27 x0_1 x5_1).f1)) := hcc18 1 _ rfl; have hf18_0 : w21.frozen? ⟨go18, (x5_1 : Int).toNat * 2, none⟩ = false := hfr18 0; have hf18_1 : w21.frozen? ⟨go18, (x5_1 : Int).toNat * 2 + 1, none⟩ = false := hfr18 1; clear hcl18 hcc18 hfr18 hM18; replace p18 := eq_true p18; replace q18 := eq_true q18; have HX23 := Am (show Kd.R k27 27 w21 w0.heap.size (fun k_ => (P0_ k_ ∨ w.heap.size ≤ k_) ∧ k_ ≠ gbBF) (.slice (some ⟨go18, 0, none⟩) x0_1.length co7) x0_1 from (Kd.R_up HO_0.out)); obtain ⟨ce23, hcl23, hM23, hcc23, hfr23⟩ := Kd.R_elem HX23.out z27 (x5_1 : Int) ofd (by have h_ : (x5_1 : Int) < ((x0_1.length : Int) : Int) := ofd; first | exact h_ | (have e_ := (Kd.R_reads' HO_0.out).1; omega) | simpa using h_); obtain rfl := k27_openM hM23; have HP23 := Kd.R_seg HX23.out (x5_1 : Int) ofd (by have h_ : (x5_1 : Int) < ((x0_1.length : Int) : Int) := ofd; first | exact h_ | (have e_ := (Kd.R_reads' HO_0.out).1; omega) | simpa using h_) (seg := [.int .i64 ((rd_T27 x0_1 x6_1).f0), .int .i64 ((rd_T27 x0_1 x6_1).f1)]) (j := 0) hcl23 hcc23 (show 2 ≤ 2 from by decide) (x' := (⟨(rd_T27 x0_1 x6_1).f0, (rd_T27 x0_1 x6_1).f1⟩ : S27)) (k27_mkM _ _ _ (⟨(rd_T27 x0_1 x6_1).f0, (rd_T27 x0_1 x6_1).f1⟩ : S27) ) (fun _ hk => hk); have hx23_0 := hcc23 0 _ rfl; (try simp only [show (k27).sz = 2 from rfl, Nat.mul_one, Nat.add_zero] at hx23_0); have hf23_0 := hfr23 0; (try simp only [show (k27).sz = 2 from rfl, Nat.mul_one, Nat.add_zero] at hf23_0); have hx23_1 := hcc23 1 _ rfl; (try simp only [show (k27).sz = 2 from rfl, Nat.mul_one, Nat.add_zero] at hx23_1); have hf23_1 := hfr23 1; (try simp only [show (k27).sz = 2 from rfl, Nat.mul_one, Nat.add_zero] at hf23_1); clear hcl23 hcc23 hfr23 hM23) | ((with_reducible refine gate_store (t := 27) (p := 33) rfl ?_); refine store_event (t := 27) (p := 33) (v := ?vo_w24) (w1 := ((w21.setCell ⟨go18, (x5_1 : Int).toNat * 2, none⟩ (.int .i64 ((rd_T27 x0_1 x6_1).f0))).setCell ⟨go18, (x5_1 : Int).toNat * 2 + 1, none⟩ (.int .i64 ((rd_T27 x0_1 x6_1).f1)))) ?hg ?ho ?hn ?hr ?_; (case ho => rfl); (case hg => rfl); (case hn => rfl); (case hr => first | (go_simp; done) | (go_simp; rfl)); intro w24 hw; have hg : w21.grownBy w24 (some go18) := (by rw [hw]; exact HP23.2); have hp_ : Kd.R k27 27 w24 w0.heap.size (fun k_ => (P0_ k_ ∨ w.heap.size ≤ k_) ∧ k_ ≠ gbBF) (.slice (some ⟨go18, 0, none⟩) x0_1.length co7) yBH := (by rw [hw, NyBH.out]; exact HP23.1); clear HP23; have n0_ := Am (hp_); have n1_ := Am (blk_grown (g := gbBF) (o := .cells #[.int .i64 ((rd_T27 x0_1 x6_1).f0), .int .i64 ((rd_T27 x0_1 x6_1).f1)] 27 (0, 0)) (blk_up BKBF.out) hg (Kd.R_away HO_0.out (fun _ hk => hk.2))); have n2_ := Am ((by rw [hw]; exact below_set (below_set (HB.out) GB18.out) GB18.out : Below w0.heap.size w0 w24)); have n3_ := Am (Kept.of_grown (S := (fun k_ => P0_ k_)) hg (by repeat (first | (with_reducible first | exact HK.out | apply Kept.alloc | apply Kept.drewN | apply Kept.drew | refine Kept.setCell ?_ (.inr GWBF.out) _) | exact HK.out)) (fun k_ e_ => (HO_0.out.1 k_ e_).1)); clear HO_0 BKBF HB HK; revert n0_ n1_ n2_ n3_; intro HO_0 BKBF HB HK; clear hg hw hp_))
         (try simp only [← hl0_1])
         go_roundg k1
         case measure => have := HK1.out; omega
         case rel => exact ⟨(yBH), (wrap64 (x5_1 + 1)), (wrap64 (x6_1 + 1)), rfS, rfS, H', ⟨by have := HK1.out; omega⟩, ⟨by (try simp only [hl0_1]); (with_reducible repeat (first | apply Kd.R_alloc | apply Kd.R_drewN | apply Kd.R_drew)); exact Kd.R_mono HO_0.out (fun _ hk => hk.1)⟩, ⟨by repeat (first | (with_reducible first | exact HK.out | apply Kept.alloc | apply Kept.drewN | apply Kept.drew | refine Kept.setCell ?_ (.inr GWBF.out) _) | exact HK.out)⟩, ⟨by exact belS⟩⟩
        ·rw [if_neg c17] at H
         exact absurd H (by simp)
       ·rw [if_neg c16] at H
        exact absurd H (by simp)
     ·rw [if_neg c10] at H
      exact absurd H (by simp)
    ·rw [if_neg c9] at H
     have c9b0 : decide (x6_1 < (x0_1.length : Int)) = false := decide_eq_false c9
     (try (have c9b0z := c9b0; rw [hl0_1] at c9b0z))
     clear c9
     by_cases c25 : 0 ≤ x5_1
     ·rw [if_pos c25] at H
      have c25b0 := eq_true c25
      have c25b1 : decide (0 ≤ x5_1) = true := decide_eq_true c25
      clear c25
      by_cases c26 : x5_1 ≤ (x0_1.length : Int)
      ·rw [if_pos c26] at H
       have c26b0 := eq_true c26
       have c26b1 : decide (x5_1 ≤ (x0_1.length : Int)) = true := decide_eq_true c26
       (try (have c26b1z := c26b1; rw [hl0_1] at c26b1z))
       clear c26
       obtain ⟨yBI, hyBI⟩ : ∃ y_ : List (S27), y_ = (x0_1.drop (x5_1 : Int).toNat) := ⟨_, rfl⟩
       replace H : (some (x0_1.take (x5_1 : Int).toNat)) = some r := by first | (rw [hyBI]; with_reducible exact H) | (have H2_ := (Option.bind_some _ _).symm.trans H; rw [hyBI]; with_reducible exact H2_) | (have H2_ := (Option.bind_some _ _).symm.trans H; with_reducible exact H2_) | with_reducible exact H | (rw [hyBI]; exact H) | exact H
       have NyBI := Am hyBI
       clear hyBI
       have c27b0 := eq_true (ofd : x5_1 ≤ (x0_1.length : Int))
       obtain ⟨yBM, hyBM⟩ : ∃ y_ : List (S27), y_ = (x0_1.take (x5_1 : Int).toNat) := ⟨_, rfl⟩
       replace H : (some yBM) = some r := by first | (rw [hyBM]; with_reducible exact H) | (have H2_ := (Option.bind_some _ _).symm.trans H; rw [hyBM]; with_reducible exact H2_) | (have H2_ := (Option.bind_some _ _).symm.trans H; with_reducible exact H2_) | with_reducible exact H | (rw [hyBM]; exact H) | exact H
       have NyBM := Am hyBM
       clear hyBM
       obtain rfl := Option.some.inj H
       have q28 : (x5_1 : Int) ≤ ((x0_1.length : Int) : Int) := ofd
       obtain ⟨i028, hi028, _, hsz28, _⟩ := info_parts info27
       have hroom28 : x0_1.length ≤ co7 := (Kd.R_reads' HO_0.out).2.1
       have hC28 : Kd.C k27 _ Ao7 x0_1.length x0_1 := (Kd.R_reads' HO_0.out).2.2
       have q028 : (0 : Int) ≤ (x5_1 : Int) := ofd
       have hcut28 := cut_from (P := Try.prog) 30 27 .i64 Try.underlying30 hi028 2 hsz28 Ao7 x0_1.length co7 x5_1 q028 q28
       have hr28 := Kd.C_drop (m := (x5_1 : Int).toNat) (c := co7) hC28 (by omega) hroom28
       obtain ⟨A28, hA28⟩ : ∃ A1, A1 = (if co7 = (x5_1 : Int).toNat then Ao7 else (Ao7 : Option Addr).map (·.add ((x5_1 : Int).toNat * 2))) := ⟨_, rfl⟩
       obtain ⟨c28, hc28⟩ : ∃ c1, c1 = co7 - (x5_1 : Int).toNat := ⟨_, rfl⟩
       have hy28 : yBI.length = x0_1.length - (x5_1 : Int).toNat := (by rw [NyBI.out, List.length_drop] <;> omega)
       rw [show (x0_1).drop (x5_1 : Int).toNat = yBI from NyBI.out.symm] at hr28
       replace hr28 : Kd.C k27 _ A28 yBI.length yBI := (by rw [hA28]; exact hr28)
       rw [← hy28, ← hA28, ← hc28] at hcut28
       have HRBL := Am hr28
       have HCBL := Am (show yBI.length ≤ c28 from by rw [hy28, hc28]; exact Nat.sub_le_sub_right hroom28 _)
       clear hr28 hC28 hroom28 hi028 hsz28 hc28
       have KY28 := Am hy28
       have KA28 := Am hA28
       clear hy28 hA28
       have KL28 := Am (show (x5_1 : Int).toNat ≤ x0_1.length from by omega)
       replace q28 := eq_true q28
       have q29 : (x5_1 : Int) ≤ ((x0_1.length : Int) : Int) := ofd
       obtain ⟨i029, hi029, _, hsz29, _⟩ := info_parts info27
       have hcut29 := cut_to (P := Try.prog) 30 27 .i64 Try.underlying30 hi029 Ao7 x0_1.length co7 x5_1 ofd q29 (Kd.R_reads' HO_0.out).2.1
       have hy29 : yBM.length = (x5_1 : Int).toNat := (by rw [NyBM.out, List.length_take]; omega)
       rw [← hy29] at hcut29
       have KV := Am hy29
       clear hy29 hi029 hsz29
       replace q29 := eq_true q29
       have HL_ := (Kd.R_reads' HO_0.out).1
       go_wp2_with (first | ((with_reducible refine gate_builtin (b := .clear) rfl ?_); refine clear_event (i := (x5_1 : Int).toNat) (xs := x0_1) (A' := A28) (n' := yBI.length) (c' := c28) rfl rfl rfl HO_0.out KL28.out rfl KA28.out KY28.out ?_; intro ys wc hyl hyt hR hg; have n0_ := Am hR; have n1_ := Am (pw_grown_below HB.out hg (Kd.R_base HO_0.out) (Nat.le_trans HW0.out HK.out.1)); have n2_ := Am (Kept.of_grown (S := (fun k_ => P0_ k_)) hg HK.out (fun k_ e_ => (HO_0.out.1 k_ e_))); have HYT := Am hyt; have HYL := Am hyl; clear HO_0 HB HK; have HO_0 := n0_; have HB := n1_; have HK := n2_; clear n0_ n1_ n2_ hR hg hyt hyl))
       go_ret
       have hr_ := Kd.R_take (m := (x5_1 : Int).toNat) HO_0.out (by rw [HYL.out]; exact KL28.out)
       rw [HYT.out, ← NyBM.out, ← KV.out] at hr_
       exact ⟨_, rfl, hr_, belS, by repeat (first | (with_reducible first | exact HK.out | apply Kept.alloc | apply Kept.drewN | apply Kept.drew) | exact HK.out)⟩
      ·rw [if_neg c26] at H
       exact absurd H (by simp)
     ·rw [if_neg c25] at H
      exact absurd H (by simp)

end Go.Proofs.Ytkobjjadojpjfaa.Pr
