-- A text of the machine side, written by wip/gen.py of this repo out of the translation. Not trusted: Lean checks it.
import Derived.Test.YtkobjjadojpjfaaF0
import Derived.Test.YtkobjjadojpjfaaHFvJ
namespace Go.Proofs.Ytkobjjadojpjfaa.Pr
open Go.RowKit Go.Proofs.YtkobjjadojpjfaaW.PrintWords Go.Proofs.YtkobjjadojpjfaaW.PrintLast Go.Proofs.YtkobjjadojpjfaaW.PrintMore
attribute [local go_sem] max2_int min2_int max_two min_two max_three min_three max_four min_four   -- for this text's walks alone
set_option linter.unusedVariables false
set_option linter.unusedSimpArgs false

/-! ### impl_Jump_213: function 213 -/
def impl_Jump_213.l0 : Nat → List (S27) → FvJ → Int → Int → Option (Int)
 | 0, _, _, _, _ => none
 | k + 1, x0, x1, x7, x8 => if x8 < x7 then (if 0 ≤ x8 then (if x8 < (x0.length : Int) then ((fvJ_.f x1 ((rd_T27 x0 x8).f0) ((rd_T27 x0 x8).f1)).bind fun tBE => (if tBE = true then (some x8) else (impl_Jump_213.l0 k x0 x1 x7 (wrap64 (x8 + 1))))) else (none)) else (none)) else (some (-1))
def impl_Jump_213.f (k : Nat) (l0 : List (S27)) (a1 : FvJ) : Option (Int) := impl_Jump_213.l0 k l0 a1 (l0.length : Int) 0
set_option maxHeartbeats 8000000 in
set_option maxRecDepth 100000 in
theorem impl_Jump_213.calls (k : Nat) (A0 : Option Addr) (c0 : Nat) (l0 : List (S27)) (a1 : FvJ) (r : Int) (w : World) (hr0 : Kd.C k27 w A0 l0.length l0) (hc0 : l0.length ≤ c0) (h : impl_Jump_213.f k l0 a1 = some r) (hp : FvJ.Ok a1 w) :
  Calls Try.prog 213 #[.slice A0 l0.length c0, FvJ.v a1] w fun e w' => e = .returned (.int .i64 r) ∧ Below w.heap.size w w' := by
 have HP := Am hp
 clear hp
 have hu27 := Try.underlying27
 have HR0 := Am hr0
 have HC0 := Am hc0
 clear hr0 hc0
 have HB := Am (Below.refl w.heap.size w)
 have H : (impl_Jump_213.l0 k l0 a1 (l0.length : Int) 0) = some r := h
 clear h
 have H' := Am H
 clear H
 go_enter Try.func213, Try.ntmps213
 go_wp2
 go_loopg [8] k (fun kq v8 w' => ∃ (x8_1 : Int), v8 = .int .i64 x8_1 ∧ Aside0 (impl_Jump_213.l0 kq l0 a1 (l0.length : Int) x8_1 = some r) ∧ Aside0 (kq ≤ k) ∧ Aside0 (Below w.heap.size w w'))
 case atStart => exact ⟨(0), rfS, H', ⟨Nat.le_refl _⟩, ⟨by exact belS⟩⟩
 case round =>
  clear H'
  obtain ⟨x8_1, rfl, HA, HK1, HB⟩ := hrel
  cases gk with
  | zero => exact absurd HA.out (by simp [impl_Jump_213.l0])
  | succ k1 =>
   have H := HA.out
   clear HA
   simp only [impl_Jump_213.l0] at H
   by_cases c3 : x8_1 < (l0.length : Int)
   ·rw [if_pos c3] at H
    have c3b0 : decide (x8_1 < (l0.length : Int)) = true := decide_eq_true c3
    clear c3
    by_cases c4 : 0 ≤ x8_1
    ·rw [if_pos c4] at H
     have c4b0 : decide (0 ≤ x8_1) = true := decide_eq_true c4
     clear c4
     by_cases c5 : x8_1 < (l0.length : Int)
     ·rw [if_pos c5] at H
      have c5b0 : decide (x8_1 < (l0.length : Int)) = true := decide_eq_true c5
      clear c5
      replace H := Option.bind_eq_some_iff.mp H
      obtain ⟨tBE, A60, H⟩ := H
      replace H : (if tBE = true then (some x8_1) else (impl_Jump_213.l0 k1 l0 a1 (l0.length : Int) (wrap64 (x8_1 + 1)))) = some r := H
      have A6 := Am A60
      clear A60
      by_cases c7 : tBE = true
      ·subst c7
       have H1 : (some x8_1) = some r := by rw [if_pos rfl] at H; exact H
       clear H
       have H := H1
       clear H1
       obtain rfl := Option.some.inj H
       have pBD : 0 ≤ (x8_1 : Int) := ofd
       have qBD : x8_1 < (l0.length : Int) := ofd
       obtain ⟨adBD, eBD, hxBD_0, hxBD_1⟩ := at_T27 HR0.out x8_1 pBD qBD
       cases eBD
       first | (replace hxBD_0 := (HB.out.cell (World.block_lt_of_cell? w _ hxBD_0)).trans hxBD_0) | skip
       first | (replace hxBD_1 := (HB.out.cell (World.block_lt_of_cell? w _ hxBD_1)).trans hxBD_1) | skip
       replace pBD := eq_true pBD
       replace qBD := eq_true qBD
       go_wp2_with (first | ((with_reducible refine gate_dst (N := 16) rfl ?_); refine goesV_ (some 16) rfl rfl HP.out.eg #[.agg #[.int .i64 ((rd_T27 l0 x8_1).f0), .int .i64 ((rd_T27 l0 x8_1).f1)]] rfl (by first | rfl | (go_simp; rfl)) argS ?_; (with_reducible refine (HP.out.go _ ((rd_T27 l0 x8_1).f0) ((rd_T27 l0 x8_1).f1) true belS A6.out).mono ?_); rintro e w8 ⟨rfl, hb⟩; refine ⟨_, rfl, ?_⟩; have n0_ := Am (below_step belS hb); clear HB; revert n0_; intro HB; (try clear hb)))
       go_ret
       exact ⟨rfE, by exact belS⟩
      ·replace c7 := Bool.eq_false_iff.mpr c7
       subst c7
       have H1 : (impl_Jump_213.l0 k1 l0 a1 (l0.length : Int) (wrap64 (x8_1 + 1))) = some r := by rw [if_neg (show ¬ (false = true) by decide)] at H; exact H
       clear H
       have H := H1
       clear H1
       have H' := Am H
       clear H
       have pBD : 0 ≤ (x8_1 : Int) := ofd
       have qBD : x8_1 < (l0.length : Int) := ofd
       obtain ⟨adBD, eBD, hxBD_0, hxBD_1⟩ := at_T27 HR0.out x8_1 pBD qBD
       cases eBD
       first | (replace hxBD_0 := (HB.out.cell (World.block_lt_of_cell? w _ hxBD_0)).trans hxBD_0) | skip
       first | (replace hxBD_1 := (HB.out.cell (World.block_lt_of_cell? w _ hxBD_1)).trans hxBD_1) | skip
       replace pBD := eq_true pBD
       replace qBD := eq_true qBD
       go_wp2_with (first | ((with_reducible refine gate_dst (N := 16) rfl ?_); refine goesV_ (some 16) rfl rfl HP.out.eg #[.agg #[.int .i64 ((rd_T27 l0 x8_1).f0), .int .i64 ((rd_T27 l0 x8_1).f1)]] rfl (by first | rfl | (go_simp; rfl)) argS ?_; (with_reducible refine (HP.out.go _ ((rd_T27 l0 x8_1).f0) ((rd_T27 l0 x8_1).f1) false belS A6.out).mono ?_); rintro e w9 ⟨rfl, hb⟩; refine ⟨_, rfl, ?_⟩; have n0_ := Am (below_step belS hb); clear HB; revert n0_; intro HB; (try clear hb)))
       go_roundg k1
       case measure => have := HK1.out; omega
       case rel => exact ⟨(wrap64 (x8_1 + 1)), rfS, H', ⟨by have := HK1.out; omega⟩, ⟨by exact belS⟩⟩
     ·rw [if_neg c5] at H
      exact absurd H (by simp)
    ·rw [if_neg c4] at H
     exact absurd H (by simp)
   ·rw [if_neg c3] at H
    have c3b0 : decide (x8_1 < (l0.length : Int)) = false := decide_eq_false c3
    clear c3
    obtain rfl := Option.some.inj H
    go_wp2
    go_ret
    exact ⟨rfE, by exact belS⟩

end Go.Proofs.Ytkobjjadojpjfaa.Pr
