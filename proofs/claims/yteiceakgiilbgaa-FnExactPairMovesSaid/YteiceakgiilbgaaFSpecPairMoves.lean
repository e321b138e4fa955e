-- A text of the machine side, written by wip/gen.py of this repo out of the translation. Not trusted: Lean checks it.
import Derived.Test.YteiceakgiilbgaaF0
import Derived.Test.YteiceakgiilbgaaFGB
import Derived.Test.YteiceakgiilbgaaFSpecOiGood
namespace Go.Proofs.Yteiceakgiilbgaa.Pr
open Go.RowKit Go.Proofs.YteiceakgiilbgaaW.PrintWords Go.Proofs.YteiceakgiilbgaaW.PrintLast Go.Proofs.YteiceakgiilbgaaW.PrintMore
attribute [local go_sem] max2_int min2_int max_two min_two max_three min_three max_four min_four   -- for this text's walks alone
set_option linter.unusedVariables false
set_option linter.unusedSimpArgs false

/-! ### spec_PairMoves: function 27 -/
def spec_PairMoves.j0 : Nat → Int → Int → Int → Int → Bool → Option (List Int × Bool)
 | 0, _, _, _, _, _ => none
 | k + 1, x0, x2, x3, x4, x24 => if x24 = true then (some (([] : List Int), false)) else (if (wrap64 (x2 + x4)) ≤ x0 then (if ([] : List Int).length < 17592186044416 then ((some (([] : List Int) ++ [0] : List Int)).bind fun yBF => (if (wrap64 (x3 + x4)) ≤ x0 then (if yBF.length < 17592186044416 then (some ((yBF ++ [1]), true)) else (none)) else (some (yBF, true)))) else (none)) else (if (wrap64 (x3 + x4)) ≤ x0 then (if ([] : List Int).length < 17592186044416 then (some ((([] : List Int) ++ [1]), true)) else (none)) else (some (([] : List Int), true))))
def spec_PairMoves.f (k : Nat) (a0 : Int) (a1 : Int) (a2 : Int) (a3 : Int) (a4 : Int) : Option (List Int × Bool) := (spec_oiGood.f a0 a1 a2 a3).bind fun tBD => (if tBD = true then ((spec_l1In.f a4 1 a1).bind fun tBE => (spec_PairMoves.j0 k a0 a2 a3 a4 (!tBE))) else (spec_PairMoves.j0 k a0 a2 a3 a4 true))
set_option maxHeartbeats 8000000 in
set_option maxRecDepth 100000 in
theorem spec_PairMoves.calls (k : Nat) (a0 : Int) (a1 : Int) (a2 : Int) (a3 : Int) (a4 : Int) (r1 : List Int) (r2 : Bool) (w : World) (h : spec_PairMoves.f k a0 a1 a2 a3 a4 = some (r1, r2)) :
  Calls Try.prog 27 #[.int .i64 a0, .int .i64 a1, .int .i64 a2, .int .i64 a3, .int .i64 a4] w fun e w' => ∃ v0_ : Value, e = .returned (.tuple #[v0_, .bool r2]) ∧ Kd.R (Kd.int .i64) 3 w' w.heap.size (fun _ => True) v0_ r1 ∧ Below w.heap.size w w' := by
 have HB := Aside0.mk (Below.refl w.heap.size w)
 have H : ((spec_oiGood.f a0 a1 a2 a3).bind fun tBD => (if tBD = true then ((spec_l1In.f a4 1 a1).bind fun tBE => (spec_PairMoves.j0 k a0 a2 a3 a4 (!tBE))) else (spec_PairMoves.j0 k a0 a2 a3 a4 true))) = some (r1, r2) := h
 clear h
 have HC6 := Aside0.mk H
 clear H
 go_enter Try.func27, Try.ntmps27
 go_upto_region 1 with (fail)
 go_cut [24] (fun v24 wc => ∃ (kq : Nat) (x24_5 : Bool), v24 = .bool x24_5 ∧ Aside0 (spec_PairMoves.j0 kq a0 a2 a3 a4 x24_5 = some (r1, r2)) ∧ Aside0 (kq ≤ k) ∧ Aside0 (Below w.heap.size w wc))
 case first =>
  have H := HC6.out
  clear HC6
  replace H := Option.bind_eq_some_iff.mp H
  obtain ⟨tBD, A70, H⟩ := H
  replace H : (if tBD = true then ((spec_l1In.f a4 1 a1).bind fun tBE => (spec_PairMoves.j0 k a0 a2 a3 a4 (!tBE))) else (spec_PairMoves.j0 k a0 a2 a3 a4 true)) = some (r1, r2) := H
  have A7 := Aside0.mk A70
  clear A70
  by_cases c8 : tBD = true
  ·subst c8
   have H1 : ((spec_l1In.f a4 1 a1).bind fun tBE => (spec_PairMoves.j0 k a0 a2 a3 a4 (!tBE))) = some (r1, r2) := by rw [if_pos rfl] at H; exact H
   clear H
   have H := H1
   clear H1
   replace H := Option.bind_eq_some_iff.mp H
   obtain ⟨tBE, A90, H⟩ := H
   replace H : (spec_PairMoves.j0 k a0 a2 a3 a4 (!tBE)) = some (r1, r2) := H
   have A9 := Aside0.mk A90
   clear A90
   have H' := Aside0.mk H
   clear H
   go_wp2_with (first | ((with_reducible refine gate_callee (f := 40) rfl ?_); refine goesL_ (some 17) rfl rfl Try.func40 (by kernel_rfl) rfl #[.int .i64 a0, .int .i64 a1, .int .i64 a2, .int .i64 a3] rfl argS ?_; (with_reducible refine (spec_oiGood.calls a0 a1 a2 a3 true _ A7.out).mono ?_); rintro e w' ⟨rfl, ⟨nd, rfl⟩⟩; refine ⟨_, rfl, ?_⟩) | (go_at_call 43; (with_reducible refine (spec_l1In.calls a4 1 a1 tBE _ A9.out).mono ?_); rintro e w' ⟨rfl, ⟨nd, rfl⟩⟩))
   go_meet
   case rel => exact ⟨_, (!tBE), (by first | rfl | (simp; done) | (simp [*]; done)), H', ⟨by first | omega | exact Nat.le_refl _⟩, ⟨by exact belS⟩⟩
  ·replace c8 := Bool.eq_false_iff.mpr c8
   subst c8
   have H1 : (spec_PairMoves.j0 k a0 a2 a3 a4 true) = some (r1, r2) := by rw [if_neg (show ¬ (false = true) by decide)] at H; exact H
   clear H
   have H := H1
   clear H1
   have H' := Aside0.mk H
   clear H
   go_wp2_with (first | ((with_reducible refine gate_callee (f := 40) rfl ?_); refine goesL_ (some 17) rfl rfl Try.func40 (by kernel_rfl) rfl #[.int .i64 a0, .int .i64 a1, .int .i64 a2, .int .i64 a3] rfl argS ?_; (with_reducible refine (spec_oiGood.calls a0 a1 a2 a3 false _ A7.out).mono ?_); rintro e w' ⟨rfl, ⟨nd, rfl⟩⟩; refine ⟨_, rfl, ?_⟩))
   go_meet
   case rel => exact ⟨_, (true), (by first | rfl | (simp; done) | (simp [*]; done)), H', ⟨by first | omega | exact Nat.le_refl _⟩, ⟨by exact belS⟩⟩
 case rest =>
  clear HC6
  try clear c2
  try clear p2
  try clear c4
  try clear c8
  obtain ⟨kq, x24_5, rfl, HA, HJ5, HB⟩ := hcut
  cases kq with
  | zero => exact absurd HA.out (by simp [spec_PairMoves.j0])
  | succ kj5 =>
   have H := HA.out
   clear HA
   simp only [spec_PairMoves.j0] at H
   by_cases c10 : x24_5 = true
   ·subst c10
    have H1 : (some (([] : List Int), false)) = some (r1, r2) := by rw [if_pos rfl] at H; exact H
    clear H
    have H := H1
    clear H1
    simp only [Option.some.injEq, Prod.mk.injEq] at H
    obtain ⟨rfl, rfl⟩ := H
    go_wp2
    go_ret2
    exact ⟨_, by first | rfl | (simp [errW_none, errW_some] <;> rfl) | (simp [*, errW_none, errW_some] <;> rfl), by first | exact Kd.R_nil _ _ _ _ _ | exact Kd.N_nil _ _ _ _ _ | exact Kd.V_nil _ _ _ _ _ | exact Kd.Q_nil _ _ _ _ _ | exact Kd.S_nil _ _ _ _ _, by exact belS⟩
   ·replace c10 := Bool.eq_false_iff.mpr c10
    subst c10
    have H1 : (if (wrap64 (a2 + a4)) ≤ a0 then (if ([] : List Int).length < 17592186044416 then ((some (([] : List Int) ++ [0] : List Int)).bind fun yBF => (if (wrap64 (a3 + a4)) ≤ a0 then (if yBF.length < 17592186044416 then (some ((yBF ++ [1]), true)) else (none)) else (some (yBF, true)))) else (none)) else (if (wrap64 (a3 + a4)) ≤ a0 then (if ([] : List Int).length < 17592186044416 then (some ((([] : List Int) ++ [1]), true)) else (none)) else (some (([] : List Int), true)))) = some (r1, r2) := by rw [if_neg (show ¬ (false = true) by decide)] at H; exact H
    clear H
    have H := H1
    clear H1
    by_cases c11 : (wrap64 (a2 + a4)) ≤ a0
    ·rw [if_pos c11] at H
     have c11b0 : decide ((wrap64 (a2 + a4)) ≤ a0) = true := decide_eq_true c11
     clear c11
     by_cases c12 : ([] : List Int).length < 17592186044416
     ·rw [if_pos c12] at H
      have LMc12 := Aside0.mk c12
      clear c12
      obtain ⟨yBF, hyBF⟩ : ∃ y_ : List Int, y_ = (([] : List Int) ++ [0]) := ⟨_, rfl⟩
      replace H : (if (wrap64 (a3 + a4)) ≤ a0 then (if yBF.length < 17592186044416 then (some ((yBF ++ [1]), true)) else (none)) else (some (yBF, true))) = some (r1, r2) := by first | (rw [hyBF]; with_reducible exact H) | (have H2_ := (Option.bind_some _ _).symm.trans H; rw [hyBF]; with_reducible exact H2_) | (have H2_ := (Option.bind_some _ _).symm.trans H; with_reducible exact H2_) | with_reducible exact H | (rw [hyBF]; exact H) | exact H
      have NyBF := Aside0.mk hyBF
      clear hyBF
      by_cases c13 : (wrap64 (a3 + a4)) ≤ a0
      ·rw [if_pos c13] at H
       have c13b0 : decide ((wrap64 (a3 + a4)) ≤ a0) = true := decide_eq_true c13
       clear c13
       by_cases c14 : yBF.length < 17592186044416
       ·rw [if_pos c14] at H
        have LMc14 := Aside0.mk c14
        clear c14
        obtain ⟨yBI, hyBI⟩ : ∃ y_ : List Int, y_ = (yBF ++ [1]) := ⟨_, rfl⟩
        replace H : (some (yBI, true)) = some (r1, r2) := by first | (rw [hyBI]; with_reducible exact H) | (have H2_ := (Option.bind_some _ _).symm.trans H; rw [hyBI]; with_reducible exact H2_) | (have H2_ := (Option.bind_some _ _).symm.trans H; with_reducible exact H2_) | with_reducible exact H | (rw [hyBI]; exact H) | exact H
        have NyBI := Aside0.mk hyBI
        clear hyBI
        simp only [Option.some.injEq, Prod.mk.injEq] at H
        obtain ⟨rfl, rfl⟩ := H
        go_wp2_with (first | ((with_reducible refine gate_builtin (b := .append) (xs := #[.tmp 30, .tmp 31]) rfl ?_); at_builtin; refine Kd.R_append (Kd.int .i64) (w0 := w) w.heap.size rfl (.tmp 30) (.tmp 31) 32 3 (.int .i64 0) 8 rfl Try.underlying32 info3 rfl (by decide) (by omega) (.slice none 0 0) ([] : List Int) 0 [.int .i64 0] (fun _ => True) (fun _ => False) rfl rfl ?aP (fun _ hk => hk.elim) ?aF ?aO ?aB ?aS ?aL ?_; (case aP => exact rfl); (case aB => exact belS); (case aF => exact (fun _ _ => trivial)); (case aO => exact ((Kd.R_nil _ _ _ _ (fun _ => True)))); (case aS => exact (below_size belS)); (case aL => have := LMc12.out; omega); intro vBG w15 ho hb hg hat; rw [← NyBF.out] at ho; have n0_ := Aside0.mk (hb); have n1_ := Aside0.mk (ho); clear HB; revert n0_ n1_; intro HB HOBH; clear ho hb hg hat) | ((with_reducible refine gate_builtin (b := .append) (xs := #[.tmp 38, .tmp 39]) rfl ?_); at_builtin; refine Kd.R_append (Kd.int .i64) (w0 := w) w.heap.size rfl (.tmp 38) (.tmp 39) 32 3 (.int .i64 0) 8 rfl Try.underlying32 info3 rfl (by decide) (by omega) vBG yBF 1 [.int .i64 1] (fun _ => True) (fun _ => False) rfl rfl ?aP (fun _ hk => hk.elim) ?aF ?aO ?aB ?aS ?aL ?_; (case aP => exact rfl); (case aB => exact belS); (case aF => exact (fun _ _ => trivial)); (case aO => exact (Kd.R_up HOBH.out)); (case aS => exact (below_size belS)); (case aL => have := LMc14.out; omega); intro vBJ w16 ho hb hg hat; rw [← NyBI.out] at ho; have n0_ := Aside0.mk (hb); have n1_ := Aside0.mk (ho); clear HB HOBH; revert n0_ n1_; intro HB HOBK; clear ho hb hg hat))
        go_ret2
        exact ⟨_, by first | rfl | (simp [errW_none, errW_some] <;> rfl) | (simp [*, errW_none, errW_some] <;> rfl), by (with_reducible repeat (first | apply Kd.R_alloc | apply Kd.R_drewN | apply Kd.R_drew)); exact HOBK.out, by exact belS⟩
       ·rw [if_neg c14] at H
        exact absurd H (by simp)
      ·rw [if_neg c13] at H
       have c13b0 : decide ((wrap64 (a3 + a4)) ≤ a0) = false := decide_eq_false c13
       clear c13
       simp only [Option.some.injEq, Prod.mk.injEq] at H
       obtain ⟨rfl, rfl⟩ := H
       go_wp2_with (first | ((with_reducible refine gate_builtin (b := .append) (xs := #[.tmp 30, .tmp 31]) rfl ?_); at_builtin; refine Kd.R_append (Kd.int .i64) (w0 := w) w.heap.size rfl (.tmp 30) (.tmp 31) 32 3 (.int .i64 0) 8 rfl Try.underlying32 info3 rfl (by decide) (by omega) (.slice none 0 0) ([] : List Int) 0 [.int .i64 0] (fun _ => True) (fun _ => False) rfl rfl ?aP (fun _ hk => hk.elim) ?aF ?aO ?aB ?aS ?aL ?_; (case aP => exact rfl); (case aB => exact belS); (case aF => exact (fun _ _ => trivial)); (case aO => exact ((Kd.R_nil _ _ _ _ (fun _ => True)))); (case aS => exact (below_size belS)); (case aL => have := LMc12.out; omega); intro vBG w17 ho hb hg hat; rw [← NyBF.out] at ho; have n0_ := Aside0.mk (hb); have n1_ := Aside0.mk (ho); clear HB; revert n0_ n1_; intro HB HOBH; clear ho hb hg hat))
       go_ret2
       exact ⟨_, by first | rfl | (simp [errW_none, errW_some] <;> rfl) | (simp [*, errW_none, errW_some] <;> rfl), by (with_reducible repeat (first | apply Kd.R_alloc | apply Kd.R_drewN | apply Kd.R_drew)); exact HOBH.out, by exact belS⟩
     ·rw [if_neg c12] at H
      exact absurd H (by simp)
    ·rw [if_neg c11] at H
     have c11b0 : decide ((wrap64 (a2 + a4)) ≤ a0) = false := decide_eq_false c11
     clear c11
     by_cases c18 : (wrap64 (a3 + a4)) ≤ a0
     ·rw [if_pos c18] at H
      have c18b0 : decide ((wrap64 (a3 + a4)) ≤ a0) = true := decide_eq_true c18
      clear c18
      by_cases c19 : ([] : List Int).length < 17592186044416
      ·rw [if_pos c19] at H
       have LMc19 := Aside0.mk c19
       clear c19
       obtain ⟨yBL, hyBL⟩ : ∃ y_ : List Int, y_ = (([] : List Int) ++ [1]) := ⟨_, rfl⟩
       replace H : (some (yBL, true)) = some (r1, r2) := by first | (rw [hyBL]; with_reducible exact H) | (have H2_ := (Option.bind_some _ _).symm.trans H; rw [hyBL]; with_reducible exact H2_) | (have H2_ := (Option.bind_some _ _).symm.trans H; with_reducible exact H2_) | with_reducible exact H | (rw [hyBL]; exact H) | exact H
       have NyBL := Aside0.mk hyBL
       clear hyBL
       simp only [Option.some.injEq, Prod.mk.injEq] at H
       obtain ⟨rfl, rfl⟩ := H
       go_wp2_with (first | ((with_reducible refine gate_builtin (b := .append) (xs := #[.tmp 38, .tmp 39]) rfl ?_); at_builtin; refine Kd.R_append (Kd.int .i64) (w0 := w) w.heap.size rfl (.tmp 38) (.tmp 39) 32 3 (.int .i64 0) 8 rfl Try.underlying32 info3 rfl (by decide) (by omega) (.slice none 0 0) ([] : List Int) 1 [.int .i64 1] (fun _ => True) (fun _ => False) rfl rfl ?aP (fun _ hk => hk.elim) ?aF ?aO ?aB ?aS ?aL ?_; (case aP => exact rfl); (case aB => exact belS); (case aF => exact (fun _ _ => trivial)); (case aO => exact ((Kd.R_nil _ _ _ _ (fun _ => True)))); (case aS => exact (below_size belS)); (case aL => have := LMc19.out; omega); intro vBM w20 ho hb hg hat; rw [← NyBL.out] at ho; have n0_ := Aside0.mk (hb); have n1_ := Aside0.mk (ho); clear HB; revert n0_ n1_; intro HB HOBN; clear ho hb hg hat))
       go_ret2
       exact ⟨_, by first | rfl | (simp [errW_none, errW_some] <;> rfl) | (simp [*, errW_none, errW_some] <;> rfl), by (with_reducible repeat (first | apply Kd.R_alloc | apply Kd.R_drewN | apply Kd.R_drew)); exact HOBN.out, by exact belS⟩
      ·rw [if_neg c19] at H
       exact absurd H (by simp)
     ·rw [if_neg c18] at H
      have c18b0 : decide ((wrap64 (a3 + a4)) ≤ a0) = false := decide_eq_false c18
      clear c18
      simp only [Option.some.injEq, Prod.mk.injEq] at H
      obtain ⟨rfl, rfl⟩ := H
      go_wp2
      go_ret2
      exact ⟨_, by first | rfl | (simp [errW_none, errW_some] <;> rfl) | (simp [*, errW_none, errW_some] <;> rfl), by first | exact Kd.R_nil _ _ _ _ _ | exact Kd.N_nil _ _ _ _ _ | exact Kd.V_nil _ _ _ _ _ | exact Kd.Q_nil _ _ _ _ _ | exact Kd.S_nil _ _ _ _ _, by exact belS⟩

end Go.Proofs.Yteiceakgiilbgaa.Pr
