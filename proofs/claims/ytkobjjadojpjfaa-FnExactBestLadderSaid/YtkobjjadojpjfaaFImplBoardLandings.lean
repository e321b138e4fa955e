-- A text of the machine side, written by wip/gen.py of this repo out of the translation. Not trusted: Lean checks it.
import Derived.Test.YtkobjjadojpjfaaF0
import Derived.Test.YtkobjjadojpjfaaFGB
namespace Go.Proofs.Ytkobjjadojpjfaa.Pr
open Go.RowKit Go.Proofs.YtkobjjadojpjfaaW.PrintWords Go.Proofs.YtkobjjadojpjfaaW.PrintLast Go.Proofs.YtkobjjadojpjfaaW.PrintMore
attribute [local go_sem] max2_int min2_int max_two min_two max_three min_three max_four min_four   -- for this text's walks alone
set_option linter.unusedVariables false
set_option linter.unusedSimpArgs false

/-! ### impl_Board_landings: function 145 -/
def impl_Board_landings.l0 : Nat → Int → List Int → Int → Int → Int → Int → List (S27) → Option (List Int)
 | 0, _, _, _, _, _, _, _ => none
 | k + 1, x1, x5, x6, xBE000, xBE001, xBE002, xBE003 => if x6 ≤ xBE001 then ((impl_Board_throw.f k xBE000 xBE001 xBE002 xBE003 x1 x6).bind fun tBH => (if x5.length < 17592186044416 then (impl_Board_landings.l0 k x1 (x5 ++ [tBH]) (wrap64 (x6 + 1)) xBE000 xBE001 xBE002 xBE003) else (none))) else (some x5)
def impl_Board_landings.f (k : Nat) (a0_0 : Int) (a0_1 : Int) (a0_2 : Int) (l0_3 : List (S27)) (a1 : Int) : Option (List Int) := impl_Board_landings.l0 k a1 (([] : List Int)) 1 a0_0 a0_1 a0_2 l0_3
set_option maxHeartbeats 8000000 in
set_option maxRecDepth 100000 in
theorem impl_Board_landings.calls (k : Nat) (a0_0 : Int) (a0_1 : Int) (a0_2 : Int) (A0_3 : Option Addr) (c0_3 : Nat) (l0_3 : List (S27)) (a1 : Int) (r : List Int) (w : World) (hr0_3 : Kd.C k27 w A0_3 l0_3.length l0_3) (hc0_3 : l0_3.length ≤ c0_3) (h : impl_Board_landings.f k a0_0 a0_1 a0_2 l0_3 a1 = some r) :
  Calls Try.prog 145 #[.agg #[.int .i64 a0_0, .int .i64 a0_1, .int .i64 a0_2, .slice A0_3 l0_3.length c0_3], .int .i64 a1] w fun e w' => ∃ v0_ : Value, e = .returned (v0_) ∧ Kd.R (Kd.int .i64) 3 w' w.heap.size (fun _ => True) v0_ r ∧ Below w.heap.size w w' := by
 have hu32 := Try.underlying32
 have HR0_3 := Am hr0_3
 have HC0_3 := Am hc0_3
 clear hr0_3 hc0_3
 have HB := Am (Below.refl w.heap.size w)
 have H : (impl_Board_landings.l0 k a1 (([] : List Int)) 1 a0_0 a0_1 a0_2 l0_3) = some r := h
 clear h
 obtain ⟨yBE, hyBE⟩ : ∃ y_ : List Int, y_ = (([] : List Int)) := ⟨_, rfl⟩
 replace H : (impl_Board_landings.l0 k a1 yBE 1 a0_0 a0_1 a0_2 l0_3) = some r := by first | (rw [hyBE]; with_reducible exact H) | (have H2_ := (Option.bind_some _ _).symm.trans H; rw [hyBE]; with_reducible exact H2_) | (have H2_ := (Option.bind_some _ _).symm.trans H; with_reducible exact H2_) | with_reducible exact H | (rw [hyBE]; exact H) | exact H
 have NyBE := Am hyBE
 clear hyBE
 have H' := Am H
 clear H
 go_enter Try.func145, Try.ntmps145
 go_wp2_with (first | ((with_reducible refine gate_dst (N := 2) rfl ?_); refine box_event (by rfl) (N := 2) (by rfl) (cs := #[.int .i64 a0_0, .int .i64 a0_1, .int .i64 a0_2, .slice A0_3 l0_3.length c0_3]) (t := 32) hrS ?_; intro gbBD hg w3 hbox hb; have n0_ := Am (below_step belS hb); have n1_ := Am (hbox); have n2_ := Am (geS hg : w.heap.size ≤ gbBD); have n3_ := n2_; clear HB; revert n0_ n1_ n2_ n3_; intro HB BKBD GWBD GEBD; clear hb hbox hg) | ((with_reducible refine gate_dst (N := 7) rfl ?_); refine Kd.R_lit (Kd.int .i64) _ 3 ?hg (N := 7) ?hd (xs := ([] : List Int)) (inner := []) (ok := fun _ => True) (okp := fun _ => True) ?hr ?hp (fun _ hk => hk) trivial (Below.refl _ _) (Nat.le_refl _) (by simp) ?_; (case hd => rfl); (case hg => rfl); (case hr => first | (go_simp; done) | (go_simp; rfl)); (case hp => exact (Reps.none _ _)); intro vBF w4 ho5 hb hg_ hnew_; clear hg_ hnew_; (first | rw [← NyBE.out] at ho5 | (simp only [Int.reduceToNat] at ho5; rw [← NyBE.out] at ho5)); have n0_ := Am (Kd.R_lower ho5 (below_size belS)); have n1_ := Am (blk_below (blk_up BKBD.out) hb); have n2_ := Am (below_step belS hb); clear BKBD HB; revert n0_ n1_ n2_; intro HOBG BKBD HB; clear hb ho5))
 go_loopg [5, 6] k (fun kq v5 v6 w' => ∃ (x5_1 : List Int) (x6_1 : Int), v6 = .int .i64 x6_1 ∧ Aside0 (impl_Board_landings.l0 kq a1 x5_1 x6_1 a0_0 a0_1 a0_2 l0_3 = some r) ∧ Aside0 (kq ≤ k) ∧ Aside0 (Kd.R (Kd.int .i64) 3 w' w.heap.size (fun _ => True) v5 x5_1) ∧ Aside0 (w'.heap[gbBD]? = some (.cells #[.int .i64 a0_0, .int .i64 a0_1, .int .i64 a0_2, (.slice A0_3 l0_3.length c0_3)] 32 (0, 0))) ∧ Aside0 (Below w.heap.size w w'))
 case atStart => exact ⟨(yBE), (1), rfS, H', ⟨Nat.le_refl _⟩, ⟨by first | exact Kd.R_up HOBG.out | exact HOBG.out⟩, ⟨by first | exact blk_up BKBD.out | exact BKBD.out⟩, ⟨by exact belS⟩⟩
 case round =>
  clear H'
  obtain ⟨x5_1, x6_1, rfl, HA, HK1, HO_5, BKBD, HB⟩ := hrel
  cases gk with
  | zero => exact absurd HA.out (by simp [impl_Board_landings.l0])
  | succ k1 =>
   have H := HA.out
   clear HA
   simp only [impl_Board_landings.l0] at H
   by_cases c6 : x6_1 ≤ a0_1
   ·rw [if_pos c6] at H
    have c6b0 : decide (x6_1 ≤ a0_1) = true := decide_eq_true c6
    clear c6
    replace H := Option.bind_eq_some_iff.mp H
    obtain ⟨tBH, A70, H⟩ := H
    replace H : (if x5_1.length < 17592186044416 then (impl_Board_landings.l0 k1 a1 (x5_1 ++ [tBH]) (wrap64 (x6_1 + 1)) a0_0 a0_1 a0_2 l0_3) else (none)) = some r := H
    have A7 := Am A70
    clear A70
    by_cases c8 : x5_1.length < 17592186044416
    ·rw [if_pos c8] at H
     have LMc8 := Am c8
     clear c8
     obtain ⟨yBI, hyBI⟩ : ∃ y_ : List Int, y_ = (x5_1 ++ [tBH]) := ⟨_, rfl⟩
     replace H : (impl_Board_landings.l0 k1 a1 yBI (wrap64 (x6_1 + 1)) a0_0 a0_1 a0_2 l0_3) = some r := by first | (rw [hyBI]; with_reducible exact H) | (have H2_ := (Option.bind_some _ _).symm.trans H; rw [hyBI]; with_reducible exact H2_) | (have H2_ := (Option.bind_some _ _).symm.trans H; with_reducible exact H2_) | with_reducible exact H | (rw [hyBI]; exact H) | exact H
     have NyBI := Am hyBI
     clear hyBI
     have H' := Am H
     clear H
     obtain ⟨hcz9_0, hcz9_1, hcz9_2, hcz9_3, hfz9_0, hfz9_1, hfz9_2, hfz9_3⟩ := blk4 BKBD.out
     go_wp2_with (first | ((with_reducible refine gate_callee (f := 138) rfl ?_); refine goesL_ (some 18) rfl rfl Try.func138 (by kernel_rfl) rfl #[.agg #[.int .i64 a0_0, .int .i64 a0_1, .int .i64 a0_2, .slice A0_3 l0_3.length c0_3], .int .i64 a1, .int .i64 x6_1] rfl argS ?_; (with_reducible refine (impl_Board_throw.calls k1 a0_0 a0_1 a0_2 _ _ l0_3 a1 x6_1 tBH _ ?side1 ?side2 A7.out).mono ?_); (case side1 => exact Kd.C_up (Kd.C_below HR0_3.out HB.out)); (case side2 => exact HC0_3.out); rintro e w10 ⟨rfl, hb⟩; refine ⟨_, rfl, ?_⟩; have n0_ := Am (Kd.R_below (Kd.R_up HO_5.out) hb); have n1_ := Am (blk_below (blk_up BKBD.out) hb); have n2_ := Am (below_step belS hb); clear HO_5 BKBD HB; revert n0_ n1_ n2_; intro HO_5 BKBD HB; (try clear hb)) | ((with_reducible refine gate_builtin (b := .append) (xs := #[.tmp 14, .tmp 19]) rfl ?_); at_builtin; refine Kd.R_append (Kd.int .i64) (w0 := w) w.heap.size rfl (.tmp 14) (.tmp 19) 58 3 (.int .i64 0) 8 rfl Try.underlying58 info3 rfl (by decide) (by omega) u5 x5_1 tBH [.int .i64 tBH] (fun _ => True) (fun _ => False) rfl rfl ?aP (fun _ hk => hk.elim) ?aF ?aO ?aB ?aS ?aL ?_; (case aP => exact rfl); (case aB => exact belS); (case aF => exact (fun _ _ => trivial)); (case aO => exact (Kd.R_up HO_5.out)); (case aS => exact (below_size belS)); (case aL => have := LMc8.out; omega); intro vBJ w11 ho hb hg hat; rw [← NyBI.out] at ho; have n0_ := Am (blk_grown (g := gbBD) (o := .cells #[.int .i64 a0_0, .int .i64 a0_1, .int .i64 a0_2, .slice A0_3 l0_3.length c0_3] 32 (0, 0)) (blk_up BKBD.out) hg (Kd.R_ne HO_5.out BKBD.out (by decide))); have n1_ := Am (hb); have n2_ := Am (ho); clear BKBD HB HO_5; revert n0_ n1_ n2_; intro BKBD HB HOBK; clear ho hb hg hat))
     go_roundg k1
     case measure => have := HK1.out; omega
     case rel => exact ⟨(yBI), (wrap64 (x6_1 + 1)), rfS, H', ⟨by have := HK1.out; omega⟩, ⟨by first | exact Kd.R_up HOBK.out | exact HOBK.out⟩, ⟨by first | exact blk_up BKBD.out | exact BKBD.out⟩, ⟨by exact belS⟩⟩
    ·rw [if_neg c8] at H
     exact absurd H (by simp)
   ·rw [if_neg c6] at H
    have c6b0 : decide (x6_1 ≤ a0_1) = false := decide_eq_false c6
    clear c6
    obtain rfl := Option.some.inj H
    obtain ⟨hcz12_0, hcz12_1, hcz12_2, hcz12_3, hfz12_0, hfz12_1, hfz12_2, hfz12_3⟩ := blk4 BKBD.out
    go_wp2
    go_ret
    exact ⟨_, rfE, by (with_reducible repeat (first | apply Kd.R_alloc | apply Kd.R_drewN | apply Kd.R_drew)); exact HO_5.out, by exact belS⟩

end Go.Proofs.Ytkobjjadojpjfaa.Pr
