-- A text of the machine side, written by wip/gen.py of this repo out of the translation. Not trusted: Lean checks it.
import Derived.Test.YteiceakgiilbgaaF0
import Derived.Test.YteiceakgiilbgaaFGM
import Derived.Test.YteiceakgiilbgaaFImplPairMoves
import Derived.Test.YteiceakgiilbgaaFSpecPairMoves
namespace Go.Proofs.Yteiceakgiilbgaa.Pr
open Go.RowKit Go.Proofs.YteiceakgiilbgaaW.PrintWords Go.Proofs.YteiceakgiilbgaaW.PrintLast Go.Proofs.YteiceakgiilbgaaW.PrintMore
attribute [local go_sem] max2_int min2_int max_two min_two max_three min_three max_four min_four   -- for this text's walks alone
set_option linter.unusedVariables false
set_option linter.unusedSimpArgs false

/-! ### laws_FnExactPairMoves: function 10 -/
mutual
def laws_FnExactPairMoves.j0 : Nat → Int → Int → Int → Int → Int → List Int → Bool → List Int → Bool → Option (Bool)
 | 0, _, _, _, _, _, _, _, _, _ => none
 | k + 1, x0, x1, x2, x3, x4, x11, x12, x13, x45 => if x45 = true then (some false) else ((laws_markIntS.f k x13 1).bind fun btBM => ((laws_heldIntS.f k btBM.2 1).bind fun tBO => (if tBO < 0 then (some false) else (if tBO = btBM.1 then ((impl_PairMoves.f k x0 x1 x2 x3 x4).bind fun btBP => ((laws_eqIntS.f k btBP.1 x11).bind fun tBT => (if tBT = true then (laws_FnExactPairMoves.j1 k btBM.2 btBM.1 (btBP.2 != x12)) else (laws_FnExactPairMoves.j1 k btBM.2 btBM.1 true)))) else (some false)))))
def laws_FnExactPairMoves.j1 : Nat → List Int → Int → Bool → Option (Bool)
 | 0, _, _, _ => none
 | k + 1, x13, x15, x74 => if x74 = true then (some false) else ((laws_heldIntS.f k x13 1).bind fun tBU => (if tBU < 0 then (some false) else (if tBU = x15 then (some true) else (some false))))
end
def laws_FnExactPairMoves.f (k : Nat) (a0 : Int) (a1 : Int) (a2 : Int) (a3 : Int) (a4 : Int) : Option (Bool) := (spec_PairMoves.f k a0 a1 a2 a3 a4).bind fun btBD => ((impl_PairMoves.f k a0 a1 a2 a3 a4).bind fun btBH => ((laws_eqIntS.f k btBH.1 btBD.1).bind fun tBL => (if tBL = true then (laws_FnExactPairMoves.j0 k a0 a1 a2 a3 a4 btBD.1 btBD.2 btBH.1 (btBH.2 != btBD.2)) else (laws_FnExactPairMoves.j0 k a0 a1 a2 a3 a4 btBD.1 btBD.2 btBH.1 true))))
set_option maxHeartbeats 8000000 in
set_option maxRecDepth 100000 in
theorem laws_FnExactPairMoves.calls (k : Nat) (a0 : Int) (a1 : Int) (a2 : Int) (a3 : Int) (a4 : Int) (r : Bool) (w : World) (h : laws_FnExactPairMoves.f k a0 a1 a2 a3 a4 = some r) :
  Calls Try.prog 10 #[.int .i64 a0, .int .i64 a1, .int .i64 a2, .int .i64 a3, .int .i64 a4] w fun e w' => e = .returned (.bool r) ∧ Below w.heap.size w w' := by
 have HB := Aside0.mk (Below.refl w.heap.size w)
 have H : ((spec_PairMoves.f k a0 a1 a2 a3 a4).bind fun btBD => ((impl_PairMoves.f k a0 a1 a2 a3 a4).bind fun btBH => ((laws_eqIntS.f k btBH.1 btBD.1).bind fun tBL => (if tBL = true then (laws_FnExactPairMoves.j0 k a0 a1 a2 a3 a4 btBD.1 btBD.2 btBH.1 (btBH.2 != btBD.2)) else (laws_FnExactPairMoves.j0 k a0 a1 a2 a3 a4 btBD.1 btBD.2 btBH.1 true))))) = some r := h
 clear h
 replace H := Option.bind_eq_some_iff.mp H
 obtain ⟨⟨tBD, tBE⟩, A60, H⟩ := H
 replace H : ((impl_PairMoves.f k a0 a1 a2 a3 a4).bind fun btBH => ((laws_eqIntS.f k btBH.1 tBD).bind fun tBL => (if tBL = true then (laws_FnExactPairMoves.j0 k a0 a1 a2 a3 a4 tBD tBE btBH.1 (btBH.2 != tBE)) else (laws_FnExactPairMoves.j0 k a0 a1 a2 a3 a4 tBD tBE btBH.1 true)))) = some r := H
 have A6 := Aside0.mk A60
 clear A60
 replace H := Option.bind_eq_some_iff.mp H
 obtain ⟨⟨tBH, tBI⟩, A70, H⟩ := H
 replace H : ((laws_eqIntS.f k tBH tBD).bind fun tBL => (if tBL = true then (laws_FnExactPairMoves.j0 k a0 a1 a2 a3 a4 tBD tBE tBH (tBI != tBE)) else (laws_FnExactPairMoves.j0 k a0 a1 a2 a3 a4 tBD tBE tBH true))) = some r := H
 have A7 := Aside0.mk A70
 clear A70
 have HC8 := Aside0.mk H
 clear H
 go_enter Try.func10, Try.ntmps10
 go_upto_region 3 with (first | ((with_reducible refine gate_callee (f := 27) rfl ?_); refine goesL_ (some 25) rfl rfl Try.func27 (by kernel_rfl) rfl #[.int .i64 a0, .int .i64 a1, .int .i64 a2, .int .i64 a3, .int .i64 a4] rfl argS ?_; (with_reducible refine (spec_PairMoves.calls k a0 a1 a2 a3 a4 tBD tBE _ A6.out).mono ?_); rintro e w9 ⟨vBF, rfl, ho0, hb⟩; refine ⟨_, rfl, ?_⟩; have n0_ := Aside0.mk (Kd.R_lower ho0 (below_size belS)); have n1_ := Aside0.mk (below_step belS hb); clear HB; revert n0_ n1_; intro HOBG HB; (try clear hb); (try clear ho0)) | ((with_reducible refine gate_callee (f := 28) rfl ?_); refine goesL_ (some 34) rfl rfl Try.func28 (by kernel_rfl) rfl #[.int .i64 a0, .int .i64 a1, .int .i64 a2, .int .i64 a3, .int .i64 a4] rfl argS ?_; (with_reducible refine (impl_PairMoves.calls k a0 a1 a2 a3 a4 tBH tBI _ A7.out).mono ?_); rintro e w10 ⟨vBJ, rfl, ho0, hb⟩; refine ⟨_, rfl, ?_⟩; have n0_ := Aside0.mk (Kd.R_elder' (Kd.R_up HOBG.out) (Kd.R_base ho0) hb); have n1_ := Aside0.mk (Kd.R_lower (Kd.R_new' ho0 (Kd.R_lt (Kd.R_up HOBG.out))) (below_size belS)); have n2_ := Aside0.mk (below_step belS hb); clear HOBG HB; revert n0_ n1_ n2_; intro HOBG HOBK HB; (try clear hb); (try clear ho0)))
 (try simp only [Act.put, sA_, sB_, sC_])
 go_cut [45] (fun v45 wc => ∃ (kq : Nat) (x45_7 : Bool), v45 = .bool x45_7 ∧ Aside0 (laws_FnExactPairMoves.j0 kq a0 a1 a2 a3 a4 tBD tBE tBH x45_7 = some r) ∧ Aside0 (kq ≤ k) ∧ Aside0 (Kd.R (Kd.int .i64) 3 wc w.heap.size (fun k_ => some k_ ≠ (vBJ : Value).ownBlock) vBF tBD) ∧ Aside0 (Kd.R (Kd.int .i64) 3 wc w.heap.size (fun k_ => some k_ ≠ (vBF : Value).ownBlock) vBJ tBH) ∧ Aside0 (Below w.heap.size w wc))
 case first =>
  have H := HC8.out
  clear HC8
  replace H := Option.bind_eq_some_iff.mp H
  obtain ⟨tBL, A110, H⟩ := H
  replace H : (if tBL = true then (laws_FnExactPairMoves.j0 k a0 a1 a2 a3 a4 tBD tBE tBH (tBI != tBE)) else (laws_FnExactPairMoves.j0 k a0 a1 a2 a3 a4 tBD tBE tBH true)) = some r := H
  have A11 := Aside0.mk A110
  clear A110
  by_cases c12 : tBL = true
  ·subst c12
   have H1 : (laws_FnExactPairMoves.j0 k a0 a1 a2 a3 a4 tBD tBE tBH (tBI != tBE)) = some r := by rw [if_pos rfl] at H; exact H
   clear H
   have H := H1
   clear H1
   have H' := Aside0.mk H
   clear H
   obtain ⟨Ao13, co13, eo13⟩ := Kd.R_slice HOBK.out
   subst eo13
   obtain ⟨Ao14, co14, eo14⟩ := Kd.R_slice HOBG.out
   subst eo14
   go_wp2_with (first | ((with_reducible refine gate_callee (f := 29) rfl ?_); refine goesL_ (some 39) rfl rfl Try.func29 (by kernel_rfl) rfl #[.slice Ao13 tBH.length co13, .slice Ao14 tBD.length co14] rfl argS ?_; (with_reducible refine (laws_eqIntS.calls k _ _ tBH _ _ tBD true _ ?side1 ?side2 ?side3 ?side4 A11.out).mono ?_); (case side1 => exact Kd.C_up (Kd.R_reads' HOBK.out).2.2); (case side2 => exact (Kd.R_reads' HOBK.out).2.1); (case side3 => exact Kd.C_up (Kd.R_reads' HOBG.out).2.2); (case side4 => exact (Kd.R_reads' HOBG.out).2.1); rintro e w' ⟨rfl, ⟨nd, rfl⟩⟩; refine ⟨_, rfl, ?_⟩))
   go_meet
   case rel => exact ⟨_, ((tBI != tBE)), (by first | rfl | (simp; done) | (simp [*]; done)), H', ⟨by first | omega | exact Nat.le_refl _⟩, ⟨by (with_reducible repeat (first | apply Kd.R_alloc | apply Kd.R_drewN | apply Kd.R_drew)); exact Kd.R_mono HOBG.out (fun _ hk => hk.2)⟩, ⟨by (with_reducible repeat (first | apply Kd.R_alloc | apply Kd.R_drewN | apply Kd.R_drew)); exact Kd.R_mono HOBK.out (fun _ hk => hk.2)⟩, ⟨by exact belS⟩⟩
  ·replace c12 := Bool.eq_false_iff.mpr c12
   subst c12
   have H1 : (laws_FnExactPairMoves.j0 k a0 a1 a2 a3 a4 tBD tBE tBH true) = some r := by rw [if_neg (show ¬ (false = true) by decide)] at H; exact H
   clear H
   have H := H1
   clear H1
   have H' := Aside0.mk H
   clear H
   obtain ⟨Ao15, co15, eo15⟩ := Kd.R_slice HOBK.out
   subst eo15
   obtain ⟨Ao16, co16, eo16⟩ := Kd.R_slice HOBG.out
   subst eo16
   go_wp2_with (first | ((with_reducible refine gate_callee (f := 29) rfl ?_); refine goesL_ (some 39) rfl rfl Try.func29 (by kernel_rfl) rfl #[.slice Ao15 tBH.length co15, .slice Ao16 tBD.length co16] rfl argS ?_; (with_reducible refine (laws_eqIntS.calls k _ _ tBH _ _ tBD false _ ?side1 ?side2 ?side3 ?side4 A11.out).mono ?_); (case side1 => exact Kd.C_up (Kd.R_reads' HOBK.out).2.2); (case side2 => exact (Kd.R_reads' HOBK.out).2.1); (case side3 => exact Kd.C_up (Kd.R_reads' HOBG.out).2.2); (case side4 => exact (Kd.R_reads' HOBG.out).2.1); rintro e w' ⟨rfl, ⟨nd, rfl⟩⟩; refine ⟨_, rfl, ?_⟩))
   go_meet
   case rel => exact ⟨_, (true), (by first | rfl | (simp; done) | (simp [*]; done)), H', ⟨by first | omega | exact Nat.le_refl _⟩, ⟨by (with_reducible repeat (first | apply Kd.R_alloc | apply Kd.R_drewN | apply Kd.R_drew)); exact Kd.R_mono HOBG.out (fun _ hk => hk.2)⟩, ⟨by (with_reducible repeat (first | apply Kd.R_alloc | apply Kd.R_drewN | apply Kd.R_drew)); exact Kd.R_mono HOBK.out (fun _ hk => hk.2)⟩, ⟨by exact belS⟩⟩
 case rest =>
  clear HC8
  try clear c1
  try clear c2
  try clear p2
  try clear c10
  try clear c12
  obtain ⟨kq, x45_7, rfl, HA, HJ7, HO_11, HO_13, HB⟩ := hcut
  cases kq with
  | zero => exact absurd HA.out (by simp [laws_FnExactPairMoves.j0])
  | succ kj7 =>
   have H := HA.out
   clear HA
   simp only [laws_FnExactPairMoves.j0] at H
   by_cases c17 : x45_7 = true
   ·subst c17
    have H1 : (some false) = some r := by rw [if_pos rfl] at H; exact H
    clear H
    have H := H1
    clear H1
    obtain rfl := Option.some.inj H
    go_wp2
    go_ret
    exact ⟨by first | rfl | (simp [errW_none, errW_some] <;> rfl) | (simp [*, errW_none, errW_some] <;> rfl), by exact belS⟩
   ·replace c17 := Bool.eq_false_iff.mpr c17
    subst c17
    have H1 : ((laws_markIntS.f kj7 tBH 1).bind fun btBM => ((laws_heldIntS.f kj7 btBM.2 1).bind fun tBO => (if tBO < 0 then (some false) else (if tBO = btBM.1 then ((impl_PairMoves.f kj7 a0 a1 a2 a3 a4).bind fun btBP => ((laws_eqIntS.f kj7 btBP.1 tBD).bind fun tBT => (if tBT = true then (laws_FnExactPairMoves.j1 kj7 btBM.2 btBM.1 (btBP.2 != tBE)) else (laws_FnExactPairMoves.j1 kj7 btBM.2 btBM.1 true)))) else (some false))))) = some r := by rw [if_neg (show ¬ (false = true) by decide)] at H; exact H
    clear H
    have H := H1
    clear H1
    replace H := Option.bind_eq_some_iff.mp H
    obtain ⟨⟨tBM, tBN⟩, A180, H⟩ := H
    replace H : ((laws_heldIntS.f kj7 tBN 1).bind fun tBO => (if tBO < 0 then (some false) else (if tBO = tBM then ((impl_PairMoves.f kj7 a0 a1 a2 a3 a4).bind fun btBP => ((laws_eqIntS.f kj7 btBP.1 tBD).bind fun tBT => (if tBT = true then (laws_FnExactPairMoves.j1 kj7 tBN tBM (btBP.2 != tBE)) else (laws_FnExactPairMoves.j1 kj7 tBN tBM true)))) else (some false)))) = some r := H
    have A18 := Aside0.mk A180
    clear A180
    replace H := Option.bind_eq_some_iff.mp H
    obtain ⟨tBO, A190, H⟩ := H
    replace H : (if tBO < 0 then (some false) else (if tBO = tBM then ((impl_PairMoves.f kj7 a0 a1 a2 a3 a4).bind fun btBP => ((laws_eqIntS.f kj7 btBP.1 tBD).bind fun tBT => (if tBT = true then (laws_FnExactPairMoves.j1 kj7 tBN tBM (btBP.2 != tBE)) else (laws_FnExactPairMoves.j1 kj7 tBN tBM true)))) else (some false))) = some r := H
    have A19 := Aside0.mk A190
    clear A190
    by_cases c20 : tBO < 0
    ·rw [if_pos c20] at H
     have c20b0 : decide (tBO < 0) = true := decide_eq_true c20
     clear c20
     obtain rfl := Option.some.inj H
     obtain ⟨Ao21, co21, eo21⟩ := Kd.R_slice HO_13.out
     subst eo21
     go_wp2_with (first | ((with_reducible refine gate_callee (f := 30) rfl ?_); refine goesL_ (some 48) rfl rfl Try.func30 (by kernel_rfl) rfl #[.slice Ao21 tBH.length co21, .int .i64 1] rfl argS ?_; (with_reducible refine (laws_markIntS.calls kj7 (fun k_ => some k_ = (.slice Ao21 tBH.length co21 : Value).ownBlock) (.slice Ao21 tBH.length co21) tBH 1 tBM tBN w _ ?side1 ?side2 A18.out).mono ?_); (case side1 => exact belS); (case side2 => exact Kd.R_tight rfl HO_13.out); rintro e w22 ⟨rfl, hy0, hb, hkp⟩; refine ⟨_, rfl, ?_⟩; have n0_ := Aside0.mk (Kd.R_mono (ok' := fun k_ => some k_ ≠ (.slice Ao21 tBH.length co21 : Value).ownBlock) (Kd.R_keptB (HO_11.out) hkp (fun k_ hk_ hs_ => (hk_) hs_)) (fun k_ hk_ => hk_.1)); have n1_ := Aside0.mk (Kd.R_reok rfl hy0 (fun k_ e_ => HO_13.out.1 k_ e_)); have n2_ := Aside0.mk (hb); clear HO_11 HO_13 HB; revert n0_ n1_ n2_; intro HO_11 HO_13 HB; (try clear hb); (try clear hkp); (try clear hy0)) | ((with_reducible refine gate_callee (f := 31) rfl ?_); refine goesL_ (some 51) rfl rfl Try.func31 (by kernel_rfl) rfl #[.slice Ao21 tBN.length co21, .int .i64 1] rfl (by (try simp only [List.map_toArray, List.map_cons, List.map_nil]); first | done | (rw [show tBN.length = tBH.length from (Kd.R_reads' HO_13.out).1.symm] <;> rfl) | rfl | (simp only [List.length_drop, List.length_take]; rfl)) ?_; (with_reducible refine (laws_heldIntS.calls kj7 _ _ tBN 1 tBO _ ?side1 ?side2 A19.out).mono ?_); (case side1 => exact Kd.C_up (Kd.R_reads' HO_13.out).2.2); (case side2 => rw [show tBN.length = tBH.length from (Kd.R_reads' HO_13.out).1.symm]; exact (Kd.R_reads' HO_13.out).2.1); rintro e w' ⟨rfl, ⟨nd, rfl⟩⟩; refine ⟨_, rfl, ?_⟩))
     go_ret
     exact ⟨by first | rfl | (simp [errW_none, errW_some] <;> rfl) | (simp [*, errW_none, errW_some] <;> rfl), by exact belS⟩
    ·rw [if_neg c20] at H
     have c20b0 : decide (tBO < 0) = false := decide_eq_false c20
     clear c20
     by_cases c23 : tBO = tBM
     ·rw [if_pos c23] at H
      have c23b0 : (tBO == tBM) = true := beq_iff_eq.mpr c23
      have c23b1 : (tBO != tBM) = false := bne_eq_false_iff_eq.mpr c23
      clear c23
      replace H := Option.bind_eq_some_iff.mp H
      obtain ⟨⟨tBP, tBQ⟩, A240, H⟩ := H
      replace H : ((laws_eqIntS.f kj7 tBP tBD).bind fun tBT => (if tBT = true then (laws_FnExactPairMoves.j1 kj7 tBN tBM (tBQ != tBE)) else (laws_FnExactPairMoves.j1 kj7 tBN tBM true))) = some r := H
      have A24 := Aside0.mk A240
      clear A240
      have HC25 := Aside0.mk H
      clear H
      obtain ⟨Ao26, co26, eo26⟩ := Kd.R_slice HO_13.out
      subst eo26
      go_upto_region 14 with (first | ((with_reducible refine gate_callee (f := 30) rfl ?_); refine goesL_ (some 48) rfl rfl Try.func30 (by kernel_rfl) rfl #[.slice Ao26 tBH.length co26, .int .i64 1] rfl argS ?_; (with_reducible refine (laws_markIntS.calls kj7 (fun k_ => some k_ = (.slice Ao26 tBH.length co26 : Value).ownBlock) (.slice Ao26 tBH.length co26) tBH 1 tBM tBN w _ ?side1 ?side2 A18.out).mono ?_); (case side1 => exact belS); (case side2 => exact Kd.R_tight rfl HO_13.out); rintro e w27 ⟨rfl, hy0, hb, hkp⟩; refine ⟨_, rfl, ?_⟩; have n0_ := Aside0.mk (Kd.R_mono (ok' := fun k_ => some k_ ≠ (.slice Ao26 tBH.length co26 : Value).ownBlock) (Kd.R_keptB (HO_11.out) hkp (fun k_ hk_ hs_ => (hk_) hs_)) (fun k_ hk_ => hk_.1)); have n1_ := Aside0.mk (Kd.R_reok rfl hy0 (fun k_ e_ => HO_13.out.1 k_ e_)); have n2_ := Aside0.mk (hb); clear HO_11 HO_13 HB; revert n0_ n1_ n2_; intro HO_11 HO_13 HB; (try clear hb); (try clear hkp); (try clear hy0)) | ((with_reducible refine gate_callee (f := 31) rfl ?_); refine goesL_ (some 51) rfl rfl Try.func31 (by kernel_rfl) rfl #[.slice Ao26 tBN.length co26, .int .i64 1] rfl (by (try simp only [List.map_toArray, List.map_cons, List.map_nil]); first | done | (rw [show tBN.length = tBH.length from (Kd.R_reads' HO_13.out).1.symm] <;> rfl) | rfl | (simp only [List.length_drop, List.length_take]; rfl)) ?_; (with_reducible refine (laws_heldIntS.calls kj7 _ _ tBN 1 tBO _ ?side1 ?side2 A19.out).mono ?_); (case side1 => exact Kd.C_up (Kd.R_reads' HO_13.out).2.2); (case side2 => rw [show tBN.length = tBH.length from (Kd.R_reads' HO_13.out).1.symm]; exact (Kd.R_reads' HO_13.out).2.1); rintro e w' ⟨rfl, ⟨nd, rfl⟩⟩; refine ⟨_, rfl, ?_⟩) | ((with_reducible refine gate_callee (f := 28) rfl ?_); refine goesL_ (some 63) rfl rfl Try.func28 (by kernel_rfl) rfl #[.int .i64 a0, .int .i64 a1, .int .i64 a2, .int .i64 a3, .int .i64 a4] rfl argS ?_; (with_reducible refine (impl_PairMoves.calls kj7 a0 a1 a2 a3 a4 tBP tBQ _ A24.out).mono ?_); rintro e w28 ⟨vBR, rfl, ho0, hb⟩; refine ⟨_, rfl, ?_⟩; have n0_ := Aside0.mk (Kd.R_elder' (Kd.R_up HO_11.out) (Kd.R_base ho0) hb); have n1_ := Aside0.mk (Kd.R_elder' (Kd.R_up HO_13.out) (Kd.R_base ho0) hb); have n2_ := Aside0.mk (Kd.R_lower (Kd.R_new' (Kd.R_new' ho0 (Kd.R_lt (Kd.R_up HO_11.out))) (Kd.R_lt (Kd.R_up HO_13.out))) (below_size belS)); have n3_ := Aside0.mk (below_step belS hb); clear HO_11 HO_13 HB; revert n0_ n1_ n2_ n3_; intro HO_11 HO_13 HOBS HB; (try clear hb); (try clear ho0)))
      (try simp only [Act.put, sA_, sB_, sC_])
      go_cut [74] (fun v74 wc => ∃ (kq : Nat) (x74_24 : Bool), v74 = .bool x74_24 ∧ Aside0 (laws_FnExactPairMoves.j1 kq tBN tBM x74_24 = some r) ∧ Aside0 (kq ≤ kj7) ∧ Aside0 (Kd.R (Kd.int .i64) 3 wc w.heap.size (fun _ => True) (.slice Ao26 tBH.length co26) tBN) ∧ Aside0 (Below w.heap.size w wc))
      case first =>
       have H := HC25.out
       clear HC25
       replace H := Option.bind_eq_some_iff.mp H
       obtain ⟨tBT, A290, H⟩ := H
       replace H : (if tBT = true then (laws_FnExactPairMoves.j1 kj7 tBN tBM (tBQ != tBE)) else (laws_FnExactPairMoves.j1 kj7 tBN tBM true)) = some r := H
       have A29 := Aside0.mk A290
       clear A290
       by_cases c30 : tBT = true
       ·subst c30
        have H1 : (laws_FnExactPairMoves.j1 kj7 tBN tBM (tBQ != tBE)) = some r := by rw [if_pos rfl] at H; exact H
        clear H
        have H := H1
        clear H1
        have H' := Aside0.mk H
        clear H
        obtain ⟨Ao31, co31, eo31⟩ := Kd.R_slice HOBS.out
        subst eo31
        obtain ⟨Ao32, co32, eo32⟩ := Kd.R_slice HO_11.out
        subst eo32
        go_wp2_with (first | ((with_reducible refine gate_callee (f := 29) rfl ?_); refine goesL_ (some 68) rfl rfl Try.func29 (by kernel_rfl) rfl #[.slice Ao31 tBP.length co31, .slice Ao32 tBD.length co32] rfl argS ?_; (with_reducible refine (laws_eqIntS.calls kj7 _ _ tBP _ _ tBD true _ ?side1 ?side2 ?side3 ?side4 A29.out).mono ?_); (case side1 => exact Kd.C_up (Kd.R_reads' HOBS.out).2.2); (case side2 => exact (Kd.R_reads' HOBS.out).2.1); (case side3 => exact Kd.C_up (Kd.R_reads' HO_11.out).2.2); (case side4 => exact (Kd.R_reads' HO_11.out).2.1); rintro e w' ⟨rfl, ⟨nd, rfl⟩⟩; refine ⟨_, rfl, ?_⟩))
        go_meet
        case rel => exact ⟨_, ((tBQ != tBE)), (by first | rfl | (simp; done) | (simp [*]; done)), H', ⟨by have := HJ7.out; first | omega | exact Nat.le_refl _⟩, ⟨by (with_reducible repeat (first | apply Kd.R_alloc | apply Kd.R_drewN | apply Kd.R_drew)); exact Kd.R_mono HO_13.out (fun _ hk => trivial)⟩, ⟨by exact belS⟩⟩
       ·replace c30 := Bool.eq_false_iff.mpr c30
        subst c30
        have H1 : (laws_FnExactPairMoves.j1 kj7 tBN tBM true) = some r := by rw [if_neg (show ¬ (false = true) by decide)] at H; exact H
        clear H
        have H := H1
        clear H1
        have H' := Aside0.mk H
        clear H
        obtain ⟨Ao33, co33, eo33⟩ := Kd.R_slice HOBS.out
        subst eo33
        obtain ⟨Ao34, co34, eo34⟩ := Kd.R_slice HO_11.out
        subst eo34
        go_wp2_with (first | ((with_reducible refine gate_callee (f := 29) rfl ?_); refine goesL_ (some 68) rfl rfl Try.func29 (by kernel_rfl) rfl #[.slice Ao33 tBP.length co33, .slice Ao34 tBD.length co34] rfl argS ?_; (with_reducible refine (laws_eqIntS.calls kj7 _ _ tBP _ _ tBD false _ ?side1 ?side2 ?side3 ?side4 A29.out).mono ?_); (case side1 => exact Kd.C_up (Kd.R_reads' HOBS.out).2.2); (case side2 => exact (Kd.R_reads' HOBS.out).2.1); (case side3 => exact Kd.C_up (Kd.R_reads' HO_11.out).2.2); (case side4 => exact (Kd.R_reads' HO_11.out).2.1); rintro e w' ⟨rfl, ⟨nd, rfl⟩⟩; refine ⟨_, rfl, ?_⟩))
        go_meet
        case rel => exact ⟨_, (true), (by first | rfl | (simp; done) | (simp [*]; done)), H', ⟨by have := HJ7.out; first | omega | exact Nat.le_refl _⟩, ⟨by (with_reducible repeat (first | apply Kd.R_alloc | apply Kd.R_drewN | apply Kd.R_drew)); exact Kd.R_mono HO_13.out (fun _ hk => trivial)⟩, ⟨by exact belS⟩⟩
      case rest =>
       clear HC25
       try clear c1
       try clear c2
       try clear p2
       try clear c3
       try clear c10
       try clear c12
       try clear c17
       try clear c20
       try clear c20b0
       try clear c23
       try clear c23b0
       try clear c23b1
       try clear c27
       try clear c28
       try clear c29
       try clear c30
       try clear c31
       try clear p2
       obtain ⟨kq, x74_24, rfl, HA, HJ24, HO_13, HB⟩ := hcut
       have hl13_24 := (Kd.R_reads' HO_13.out).1
       rw [hl13_24] at HO_13
       (try simp only [hl13_24])
       cases kq with
       | zero => exact absurd HA.out (by simp [laws_FnExactPairMoves.j1])
       | succ kj24 =>
        have H := HA.out
        clear HA
        simp only [laws_FnExactPairMoves.j1] at H
        by_cases c35 : x74_24 = true
        ·subst c35
         have H1 : (some false) = some r := by rw [if_pos rfl] at H; exact H
         clear H
         have H := H1
         clear H1
         obtain rfl := Option.some.inj H
         go_wp2
         go_ret
         exact ⟨by first | rfl | (simp [errW_none, errW_some] <;> rfl) | (simp [*, errW_none, errW_some] <;> rfl), by exact belS⟩
        ·replace c35 := Bool.eq_false_iff.mpr c35
         subst c35
         have H1 : ((laws_heldIntS.f kj24 tBN 1).bind fun tBU => (if tBU < 0 then (some false) else (if tBU = tBM then (some true) else (some false)))) = some r := by rw [if_neg (show ¬ (false = true) by decide)] at H; exact H
         clear H
         have H := H1
         clear H1
         replace H := Option.bind_eq_some_iff.mp H
         obtain ⟨tBU, A360, H⟩ := H
         replace H : (if tBU < 0 then (some false) else (if tBU = tBM then (some true) else (some false))) = some r := H
         have A36 := Aside0.mk A360
         clear A360
         by_cases c37 : tBU < 0
         ·rw [if_pos c37] at H
          have c37b0 : decide (tBU < 0) = true := decide_eq_true c37
          clear c37
          obtain rfl := Option.some.inj H
          go_wp2_with (first | ((with_reducible refine gate_callee (f := 31) rfl ?_); refine goesL_ (some 77) rfl rfl Try.func31 (by kernel_rfl) rfl #[.slice Ao26 tBN.length co26, .int .i64 1] rfl argS ?_; (with_reducible refine (laws_heldIntS.calls kj24 _ _ tBN 1 tBU _ ?side1 ?side2 A36.out).mono ?_); (case side1 => exact Kd.C_up (Kd.R_reads' HO_13.out).2.2); (case side2 => exact (Kd.R_reads' HO_13.out).2.1); rintro e w' ⟨rfl, ⟨nd, rfl⟩⟩; refine ⟨_, rfl, ?_⟩))
          go_ret
          exact ⟨by first | rfl | (simp [errW_none, errW_some] <;> rfl) | (simp [*, errW_none, errW_some] <;> rfl), by exact belS⟩
         ·rw [if_neg c37] at H
          have c37b0 : decide (tBU < 0) = false := decide_eq_false c37
          clear c37
          by_cases c38 : tBU = tBM
          ·rw [if_pos c38] at H
           have c38b0 : (tBU == tBM) = true := beq_iff_eq.mpr c38
           have c38b1 : (tBU != tBM) = false := bne_eq_false_iff_eq.mpr c38
           clear c38
           obtain rfl := Option.some.inj H
           go_wp2_with (first | ((with_reducible refine gate_callee (f := 31) rfl ?_); refine goesL_ (some 77) rfl rfl Try.func31 (by kernel_rfl) rfl #[.slice Ao26 tBN.length co26, .int .i64 1] rfl argS ?_; (with_reducible refine (laws_heldIntS.calls kj24 _ _ tBN 1 tBU _ ?side1 ?side2 A36.out).mono ?_); (case side1 => exact Kd.C_up (Kd.R_reads' HO_13.out).2.2); (case side2 => exact (Kd.R_reads' HO_13.out).2.1); rintro e w' ⟨rfl, ⟨nd, rfl⟩⟩; refine ⟨_, rfl, ?_⟩))
           go_ret
           exact ⟨by first | rfl | (simp [errW_none, errW_some] <;> rfl) | (simp [*, errW_none, errW_some] <;> rfl), by exact belS⟩
          ·rw [if_neg c38] at H
           have c38b0 : (tBU == tBM) = false := beq_eq_false_iff_ne.mpr c38
           have c38b1 : (tBU != tBM) = true := bne_iff_ne.mpr c38
           obtain rfl := Option.some.inj H
           go_wp2_with (first | ((with_reducible refine gate_callee (f := 31) rfl ?_); refine goesL_ (some 77) rfl rfl Try.func31 (by kernel_rfl) rfl #[.slice Ao26 tBN.length co26, .int .i64 1] rfl argS ?_; (with_reducible refine (laws_heldIntS.calls kj24 _ _ tBN 1 tBU _ ?side1 ?side2 A36.out).mono ?_); (case side1 => exact Kd.C_up (Kd.R_reads' HO_13.out).2.2); (case side2 => exact (Kd.R_reads' HO_13.out).2.1); rintro e w' ⟨rfl, ⟨nd, rfl⟩⟩; refine ⟨_, rfl, ?_⟩))
           go_ret
           exact ⟨by first | rfl | (simp [errW_none, errW_some] <;> rfl) | (simp [*, errW_none, errW_some] <;> rfl), by exact belS⟩
     ·rw [if_neg c23] at H
      have c23b0 : (tBO == tBM) = false := beq_eq_false_iff_ne.mpr c23
      have c23b1 : (tBO != tBM) = true := bne_iff_ne.mpr c23
      obtain rfl := Option.some.inj H
      obtain ⟨Ao39, co39, eo39⟩ := Kd.R_slice HO_13.out
      subst eo39
      go_wp2_with (first | ((with_reducible refine gate_callee (f := 30) rfl ?_); refine goesL_ (some 48) rfl rfl Try.func30 (by kernel_rfl) rfl #[.slice Ao39 tBH.length co39, .int .i64 1] rfl argS ?_; (with_reducible refine (laws_markIntS.calls kj7 (fun k_ => some k_ = (.slice Ao39 tBH.length co39 : Value).ownBlock) (.slice Ao39 tBH.length co39) tBH 1 tBM tBN w _ ?side1 ?side2 A18.out).mono ?_); (case side1 => exact belS); (case side2 => exact Kd.R_tight rfl HO_13.out); rintro e w40 ⟨rfl, hy0, hb, hkp⟩; refine ⟨_, rfl, ?_⟩; have n0_ := Aside0.mk (Kd.R_mono (ok' := fun k_ => some k_ ≠ (.slice Ao39 tBH.length co39 : Value).ownBlock) (Kd.R_keptB (HO_11.out) hkp (fun k_ hk_ hs_ => (hk_) hs_)) (fun k_ hk_ => hk_.1)); have n1_ := Aside0.mk (Kd.R_reok rfl hy0 (fun k_ e_ => HO_13.out.1 k_ e_)); have n2_ := Aside0.mk (hb); clear HO_11 HO_13 HB; revert n0_ n1_ n2_; intro HO_11 HO_13 HB; (try clear hb); (try clear hkp); (try clear hy0)) | ((with_reducible refine gate_callee (f := 31) rfl ?_); refine goesL_ (some 51) rfl rfl Try.func31 (by kernel_rfl) rfl #[.slice Ao39 tBN.length co39, .int .i64 1] rfl (by (try simp only [List.map_toArray, List.map_cons, List.map_nil]); first | done | (rw [show tBN.length = tBH.length from (Kd.R_reads' HO_13.out).1.symm] <;> rfl) | rfl | (simp only [List.length_drop, List.length_take]; rfl)) ?_; (with_reducible refine (laws_heldIntS.calls kj7 _ _ tBN 1 tBO _ ?side1 ?side2 A19.out).mono ?_); (case side1 => exact Kd.C_up (Kd.R_reads' HO_13.out).2.2); (case side2 => rw [show tBN.length = tBH.length from (Kd.R_reads' HO_13.out).1.symm]; exact (Kd.R_reads' HO_13.out).2.1); rintro e w' ⟨rfl, ⟨nd, rfl⟩⟩; refine ⟨_, rfl, ?_⟩))
      go_ret
      exact ⟨by first | rfl | (simp [errW_none, errW_some] <;> rfl) | (simp [*, errW_none, errW_some] <;> rfl), by exact belS⟩

/-- THE ONE PURE STATEMENT of laws_FnExactPairMoves: yours. -/
def laws_FnExactPairMoves.Pure : Prop := ∀ (a0 : Int) (a1 : Int) (a2 : Int) (a3 : Int) (a4 : Int), (Lit.int .i64 a0).wf = true → (Lit.int .i64 a1).wf = true → (Lit.int .i64 a2).wf = true → (Lit.int .i64 a3).wf = true → (Lit.int .i64 a4).wf = true → ∃ k, laws_FnExactPairMoves.f k a0 a1 a2 a3 a4 = some true
theorem laws_FnExactPairMoves.walk (P : laws_FnExactPairMoves.Pure) (a0 : Int) (a1 : Int) (a2 : Int) (a3 : Int) (a4 : Int) (w : World) (w0 : (Lit.int .i64 a0).wf = true) (w1 : (Lit.int .i64 a1).wf = true) (w2 : (Lit.int .i64 a2).wf = true) (w3 : (Lit.int .i64 a3).wf = true) (w4 : (Lit.int .i64 a4).wf = true) :
  Calls Try.prog 10 #[.int .i64 a0, .int .i64 a1, .int .i64 a2, .int .i64 a3, .int .i64 a4] w fun e w' => e = .returned (.bool true) ∧ Below w.heap.size w w' := by
 obtain ⟨k, h⟩ := P a0 a1 a2 a3 a4 w0 w1 w2 w3 w4
 refine (laws_FnExactPairMoves.calls k a0 a1 a2 a3 a4 true w h).mono ?_
 rintro e w' ⟨rfl, hd⟩
 exact ⟨rfl, hd⟩

end Go.Proofs.Yteiceakgiilbgaa.Pr
