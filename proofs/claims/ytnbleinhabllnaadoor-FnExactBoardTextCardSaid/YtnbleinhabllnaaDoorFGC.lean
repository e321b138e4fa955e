-- A text of the machine side, written by wip/gen.py of this repo out of the translation. Not trusted: Lean checks it.
import Derived.Test.YtnbleinhabllnaaDoorF0
import Derived.Test.YtnbleinhabllnaaDoorFGB
namespace Go.Proofs.YtnbleinhabllnaaDoor.Pr
open Go.RowKit Go.Proofs.YtnbleinhabllnaaDoorW.PrintWords Go.Proofs.YtnbleinhabllnaaDoorW.PrintLast Go.Proofs.YtnbleinhabllnaaDoorW.PrintMore
attribute [local go_sem] max2_int min2_int max_two min_two max_three min_three max_four min_four   -- for this text's walks alone
set_option linter.unusedVariables false
set_option linter.unusedSimpArgs false

section
abbrev bSpecSqGood_0 : Array Bool := #[false, false, false, false, false, false, false, false, false, false, false, false, false, false]
abbrev bSpecSqGood_15 : Array Bool := #[false, false, false, false, false, false, false]
abbrev bSpecSqGood_16 : Array Bool := #[false, true, false, false, false, false, false]
abbrev bSpecSqGood_17 : Array Bool := #[false, true, false, false, true, false, false]
abbrev bSpecSqGood_18 : Array Bool := #[true, true, false, false, true, false, false]
abbrev bSpecSqGood_19 : Array Bool := #[true, true, true, false, true, false, false]
abbrev bSpecSqGood_20 : Array Bool := #[true, true, true, false, true, true, false]
abbrev bSpecSqGood_21 : Array Bool := #[true, true, true, true, true, true, false]
abbrev bSpecSqGood_22 : Array Bool := #[true, true, true, true, true, true, true]
/-! ### spec_sqGood: function 39 -/
mutual
def spec_sqGood.j0 : Nat → Bool → Int → Int → Int → List (S61) → Option (Bool)
 | 0, _, _, _, _, _ => none
 | k + 1, x28, xBE000, xBE001, xBE002, xBE003 => if x28 = true then (some false) else (spec_sqGood.l0 k xBE003 (xBE003.length : Int) 0 xBE000 xBE001 xBE002 xBE003)
def spec_sqGood.l0 : Nat → List (S61) → Int → Int → Int → Int → Int → List (S61) → Option (Bool)
 | 0, _, _, _, _, _, _, _ => none
 | k + 1, x30, x31, x32, xBE000, xBE001, xBE002, xBE003 => if x32 < x31 then (if 0 ≤ x32 then (if x32 < (x30.length : Int) then ((spec_l1In.f ((rd_T61 x30 x32).f0) 1 (wrap64 (xBE000 - 1))).bind fun tBJ => (if tBJ = true then ((spec_l1In.f ((rd_T61 x30 x32).f1) 0 xBE000).bind fun tBK => (if tBK = true then (spec_sqGood.j2 k x32 x30 x31 x32 (((rd_T61 x30 x32).f0) == ((rd_T61 x30 x32).f1)) xBE000 xBE001 xBE002 xBE003 ((rd_T61 x30 x32).f0) ((rd_T61 x30 x32).f1)) else (spec_sqGood.j2 k x32 x30 x31 x32 true xBE000 xBE001 xBE002 xBE003 ((rd_T61 x30 x32).f0) ((rd_T61 x30 x32).f1)))) else (spec_sqGood.j2 k x32 x30 x31 x32 true xBE000 xBE001 xBE002 xBE003 ((rd_T61 x30 x32).f0) ((rd_T61 x30 x32).f1)))) else (none)) else (none)) else (spec_sqGood.l1 k xBE003 (xBE003.length : Int) 0 xBE000 xBE001 xBE002 xBE003)
def spec_sqGood.j2 : Nat → Int → List (S61) → Int → Int → Bool → Int → Int → Int → List (S61) → Int → Int → Option (Bool)
 | 0, _, _, _, _, _, _, _, _, _, _, _ => none
 | k + 1, x3, x30, x31, x32, x58, xBE000, xBE001, xBE002, xBE003, xBJ000, xBJ001 => if x58 = true then (some false) else (if x3 > 0 then (if 0 ≤ (wrap64 (x3 - 1)) then (if (wrap64 (x3 - 1)) < (xBE003.length : Int) then (if ((rd_T61 xBE003 (wrap64 (x3 - 1))).f0) ≥ xBJ000 then (some false) else (spec_sqGood.l0 k x30 x31 (wrap64 (x32 + 1)) xBE000 xBE001 xBE002 xBE003)) else (none)) else (none)) else (spec_sqGood.l0 k x30 x31 (wrap64 (x32 + 1)) xBE000 xBE001 xBE002 xBE003))
def spec_sqGood.l1 : Nat → List (S61) → Int → Int → Int → Int → Int → List (S61) → Option (Bool)
 | 0, _, _, _, _, _, _, _ => none
 | k + 1, x75, x76, x77, xBE000, xBE001, xBE002, xBE003 => if x77 < x76 then (if 0 ≤ x77 then (if x77 < (x75.length : Int) then ((spec_sqJump.f k xBE000 xBE001 xBE002 xBE003 ((rd_T61 x75 x77).f1)).bind fun tBO => (if tBO = ((rd_T61 x75 x77).f1) then (spec_sqGood.l1 k x75 x76 (wrap64 (x77 + 1)) xBE000 xBE001 xBE002 xBE003) else (some false))) else (none)) else (none)) else (some true)
end
def spec_sqGood.f (k : Nat) (a0_0 : Int) (a0_1 : Int) (a0_2 : Int) (l0_3 : List (S61)) : Option (Bool) := (spec_l1In.f a0_0 1 100).bind fun tBE => (if tBE = true then ((spec_l1In.f a0_1 1 8).bind fun tBF => (if tBF = true then ((spec_l1In.f a0_2 0 2).bind fun tBG => (if tBG = true then (spec_sqGood.j0 k (decide ((l0_3.length : Int) > 20)) a0_0 a0_1 a0_2 l0_3) else (spec_sqGood.j0 k true a0_0 a0_1 a0_2 l0_3))) else (spec_sqGood.j0 k true a0_0 a0_1 a0_2 l0_3))) else (spec_sqGood.j0 k true a0_0 a0_1 a0_2 l0_3))
def spec_sqGood.T8 : Bool × List (List Nat × List Nat) := (true, [([], []), ([0], [0]), ([1], [1]), ([2], [2]), ([3, 2], [2, 3]), ([2], [2]), ([5, 2], [2, 5]), ([4, 6, 2], [2, 4, 6]), ([7, 2], [2, 7]), ([8, 2], [2, 8]), ([2], [2]), ([10, 2], [2, 10]), ([9, 11, 2], [2, 9, 11]), ([2, 12], [2, 12])])
def spec_sqGood.B8 : List Nat := [0, 1, 3, 7, 15, 7, 39, 127, 255, 511, 7, 1031, 4095, 8191]
theorem spec_sqGood.tab8 : rtab .any (opsOf Tryd.f39 8) = spec_sqGood.T8 := by kernel_rfl
theorem spec_sqGood.bits8 : waitsOk spec_sqGood.T8.2 spec_sqGood.B8 = true := by kernel_rfl
set_option maxHeartbeats 8000000 in
set_option maxRecDepth 100000 in
theorem spec_sqGood.calls (k : Nat) (a0_0 : Int) (a0_1 : Int) (a0_2 : Int) (A0_3 : Option Addr) (c0_3 : Nat) (l0_3 : List (S61)) (r : Bool) (w : World) (hr0_3 : Kd.C k61 w A0_3 l0_3.length l0_3) (hc0_3 : l0_3.length ≤ c0_3) (h : spec_sqGood.f k a0_0 a0_1 a0_2 l0_3 = some r) :
  Calls Tryd.prog 39 #[.agg #[.int .i64 a0_0, .int .i64 a0_1, .int .i64 a0_2, .slice A0_3 l0_3.length c0_3]] w fun e w' => e = .returned (.bool r) ∧ Below w.heap.size w w' := by
 have hu24 := Tryd.underlying24
 have hu61 := Tryd.underlying61
 have HR0_3 := Am hr0_3
 have HC0_3 := Am hc0_3
 clear hr0_3 hc0_3
 have HB := Am (Below.refl w.heap.size w)
 have H : ((spec_l1In.f a0_0 1 100).bind fun tBE => (if tBE = true then ((spec_l1In.f a0_1 1 8).bind fun tBF => (if tBF = true then ((spec_l1In.f a0_2 0 2).bind fun tBG => (if tBG = true then (spec_sqGood.j0 k (decide ((l0_3.length : Int) > 20)) a0_0 a0_1 a0_2 l0_3) else (spec_sqGood.j0 k true a0_0 a0_1 a0_2 l0_3))) else (spec_sqGood.j0 k true a0_0 a0_1 a0_2 l0_3))) else (spec_sqGood.j0 k true a0_0 a0_1 a0_2 l0_3))) = some r := h
 clear h
 have HC2 := Am H
 clear H
 go_enter Tryd.func39, Tryd.ntmps39
 go_upto_region 1 with (first | ((with_reducible refine gate_dst (N := 1) rfl ?_); (try (refine gate_guard (by rfl) ?_; dsimp only)); refine box_event (by rfl) (N := 1) (by rfl) (cs := #[.int .i64 a0_0, .int .i64 a0_1, .int .i64 a0_2, .slice A0_3 l0_3.length c0_3]) (t := 24) hrS ?_; intro gbBD hg w3 hbox hb; have n0_ := Am (below_step belS hb); have n1_ := Am (hbox); have n2_ := Am (geS hg : w.heap.size ≤ gbBD); have n3_ := n2_; clear HB; revert n0_ n1_ n2_ n3_; intro HB BKBD GWBD GEBD; clear hb hbox hg))
 (try simp only [Act.put, sA_, sB_, sC_])
 go_cut [28] (fun v28 wc => ∃ (kq : Nat) (x28_1 : Bool), v28 = .bool x28_1 ∧ Aside0 (spec_sqGood.j0 kq x28_1 a0_0 a0_1 a0_2 l0_3 = some r) ∧ Aside0 (kq ≤ k) ∧ Aside0 (wc.heap[gbBD]? = some (.cells #[.int .i64 a0_0, .int .i64 a0_1, .int .i64 a0_2, (.slice A0_3 l0_3.length c0_3)] 24 (0, 0))) ∧ Aside0 (Below w.heap.size w wc))
 case first =>
  have H := HC2.out
  clear HC2
  replace H := Option.bind_eq_some_iff.mp H
  obtain ⟨tBE, A40, H⟩ := H
  replace H : (if tBE = true then ((spec_l1In.f a0_1 1 8).bind fun tBF => (if tBF = true then ((spec_l1In.f a0_2 0 2).bind fun tBG => (if tBG = true then (spec_sqGood.j0 k (decide ((l0_3.length : Int) > 20)) a0_0 a0_1 a0_2 l0_3) else (spec_sqGood.j0 k true a0_0 a0_1 a0_2 l0_3))) else (spec_sqGood.j0 k true a0_0 a0_1 a0_2 l0_3))) else (spec_sqGood.j0 k true a0_0 a0_1 a0_2 l0_3)) = some r := H
  have A4 := Am A40
  clear A40
  by_cases c5 : tBE = true
  ·subst c5
   have H1 : ((spec_l1In.f a0_1 1 8).bind fun tBF => (if tBF = true then ((spec_l1In.f a0_2 0 2).bind fun tBG => (if tBG = true then (spec_sqGood.j0 k (decide ((l0_3.length : Int) > 20)) a0_0 a0_1 a0_2 l0_3) else (spec_sqGood.j0 k true a0_0 a0_1 a0_2 l0_3))) else (spec_sqGood.j0 k true a0_0 a0_1 a0_2 l0_3))) = some r := by rw [if_pos rfl] at H; exact H
   clear H
   have H := H1
   clear H1
   replace H := Option.bind_eq_some_iff.mp H
   obtain ⟨tBF, A60, H⟩ := H
   replace H : (if tBF = true then ((spec_l1In.f a0_2 0 2).bind fun tBG => (if tBG = true then (spec_sqGood.j0 k (decide ((l0_3.length : Int) > 20)) a0_0 a0_1 a0_2 l0_3) else (spec_sqGood.j0 k true a0_0 a0_1 a0_2 l0_3))) else (spec_sqGood.j0 k true a0_0 a0_1 a0_2 l0_3)) = some r := H
   have A6 := Am A60
   clear A60
   by_cases c7 : tBF = true
   ·subst c7
    have H1 : ((spec_l1In.f a0_2 0 2).bind fun tBG => (if tBG = true then (spec_sqGood.j0 k (decide ((l0_3.length : Int) > 20)) a0_0 a0_1 a0_2 l0_3) else (spec_sqGood.j0 k true a0_0 a0_1 a0_2 l0_3))) = some r := by rw [if_pos rfl] at H; exact H
    clear H
    have H := H1
    clear H1
    replace H := Option.bind_eq_some_iff.mp H
    obtain ⟨tBG, A80, H⟩ := H
    replace H : (if tBG = true then (spec_sqGood.j0 k (decide ((l0_3.length : Int) > 20)) a0_0 a0_1 a0_2 l0_3) else (spec_sqGood.j0 k true a0_0 a0_1 a0_2 l0_3)) = some r := H
    have A8 := Am A80
    clear A80
    by_cases c9 : tBG = true
    ·subst c9
     have H1 : (spec_sqGood.j0 k (decide ((l0_3.length : Int) > 20)) a0_0 a0_1 a0_2 l0_3) = some r := by rw [if_pos rfl] at H; exact H
     clear H
     have H := H1
     clear H1
     have H' := Am H
     clear H
     obtain ⟨hcz10_0, hcz10_1, hcz10_2, hcz10_3, hfz10_0, hfz10_1, hfz10_2, hfz10_3⟩ := blk4 BKBD.out
     go_wp2_with (first | ((with_reducible refine gate_callee (f := 55) rfl ?_); refine goesL_ (some 9) rfl rfl Tryd.func55 (by kernel_rfl) rfl #[.int .i64 a0_0, .int .i64 1, .int .i64 100] rfl argS ?_; (with_reducible refine (spec_l1In.calls a0_0 1 100 true _ A4.out).mono ?_); rintro e w' ⟨rfl, ⟨nd, rfl⟩⟩; refine ⟨_, rfl, ?_⟩) | (go_at_call 55; (with_reducible refine (spec_l1In.calls a0_1 1 8 true _ A6.out).mono ?_); rintro e w' ⟨rfl, ⟨nd, rfl⟩⟩) | (go_at_call 55; (with_reducible refine (spec_l1In.calls a0_2 0 2 true _ A8.out).mono ?_); rintro e w' ⟨rfl, ⟨nd, rfl⟩⟩))
     go_meet
     case rel => exact ⟨_, (decide ((l0_3.length : Int) > 20)), rfS, H', ⟨by first | omega | exact Nat.le_refl _⟩, ⟨by first | exact blk_up BKBD.out | exact BKBD.out⟩, ⟨by exact belS⟩⟩
    ·replace c9 := Bool.eq_false_iff.mpr c9
     subst c9
     have H1 : (spec_sqGood.j0 k true a0_0 a0_1 a0_2 l0_3) = some r := by rw [if_neg (show ¬ (false = true) by decide)] at H; exact H
     clear H
     have H := H1
     clear H1
     have H' := Am H
     clear H
     obtain ⟨hcz11_0, hcz11_1, hcz11_2, hcz11_3, hfz11_0, hfz11_1, hfz11_2, hfz11_3⟩ := blk4 BKBD.out
     go_wp2_with (first | ((with_reducible refine gate_callee (f := 55) rfl ?_); refine goesL_ (some 9) rfl rfl Tryd.func55 (by kernel_rfl) rfl #[.int .i64 a0_0, .int .i64 1, .int .i64 100] rfl argS ?_; (with_reducible refine (spec_l1In.calls a0_0 1 100 true _ A4.out).mono ?_); rintro e w' ⟨rfl, ⟨nd, rfl⟩⟩; refine ⟨_, rfl, ?_⟩) | (go_at_call 55; (with_reducible refine (spec_l1In.calls a0_1 1 8 true _ A6.out).mono ?_); rintro e w' ⟨rfl, ⟨nd, rfl⟩⟩) | (go_at_call 55; (with_reducible refine (spec_l1In.calls a0_2 0 2 false _ A8.out).mono ?_); rintro e w' ⟨rfl, ⟨nd, rfl⟩⟩))
     go_meet
     case rel => exact ⟨_, (true), rfS, H', ⟨by first | omega | exact Nat.le_refl _⟩, ⟨by first | exact blk_up BKBD.out | exact BKBD.out⟩, ⟨by exact belS⟩⟩
   ·replace c7 := Bool.eq_false_iff.mpr c7
    subst c7
    have H1 : (spec_sqGood.j0 k true a0_0 a0_1 a0_2 l0_3) = some r := by rw [if_neg (show ¬ (false = true) by decide)] at H; exact H
    clear H
    have H := H1
    clear H1
    have H' := Am H
    clear H
    obtain ⟨hcz12_0, hcz12_1, hcz12_2, hcz12_3, hfz12_0, hfz12_1, hfz12_2, hfz12_3⟩ := blk4 BKBD.out
    go_wp2_with (first | ((with_reducible refine gate_callee (f := 55) rfl ?_); refine goesL_ (some 9) rfl rfl Tryd.func55 (by kernel_rfl) rfl #[.int .i64 a0_0, .int .i64 1, .int .i64 100] rfl argS ?_; (with_reducible refine (spec_l1In.calls a0_0 1 100 true _ A4.out).mono ?_); rintro e w' ⟨rfl, ⟨nd, rfl⟩⟩; refine ⟨_, rfl, ?_⟩) | (go_at_call 55; (with_reducible refine (spec_l1In.calls a0_1 1 8 false _ A6.out).mono ?_); rintro e w' ⟨rfl, ⟨nd, rfl⟩⟩))
    go_meet
    case rel => exact ⟨_, (true), rfS, H', ⟨by first | omega | exact Nat.le_refl _⟩, ⟨by first | exact blk_up BKBD.out | exact BKBD.out⟩, ⟨by exact belS⟩⟩
  ·replace c5 := Bool.eq_false_iff.mpr c5
   subst c5
   have H1 : (spec_sqGood.j0 k true a0_0 a0_1 a0_2 l0_3) = some r := by rw [if_neg (show ¬ (false = true) by decide)] at H; exact H
   clear H
   have H := H1
   clear H1
   have H' := Am H
   clear H
   obtain ⟨hcz13_0, hcz13_1, hcz13_2, hcz13_3, hfz13_0, hfz13_1, hfz13_2, hfz13_3⟩ := blk4 BKBD.out
   go_wp2_with (first | ((with_reducible refine gate_callee (f := 55) rfl ?_); refine goesL_ (some 9) rfl rfl Tryd.func55 (by kernel_rfl) rfl #[.int .i64 a0_0, .int .i64 1, .int .i64 100] rfl argS ?_; (with_reducible refine (spec_l1In.calls a0_0 1 100 false _ A4.out).mono ?_); rintro e w' ⟨rfl, ⟨nd, rfl⟩⟩; refine ⟨_, rfl, ?_⟩))
   go_meet
   case rel => exact ⟨_, (true), rfS, H', ⟨by first | omega | exact Nat.le_refl _⟩, ⟨by first | exact blk_up BKBD.out | exact BKBD.out⟩, ⟨by exact belS⟩⟩
 case rest =>
  clear HC2
  obtain ⟨kq, x28_1, rfl, HA, HJ1, BKBD, HB⟩ := hcut
  cases kq with
  | zero => exact absurd HA.out (by simp [spec_sqGood.j0])
  | succ kj1 =>
   have H := HA.out
   clear HA
   simp only [spec_sqGood.j0] at H
   by_cases c14 : x28_1 = true
   ·subst c14
    have H1 : (some false) = some r := by rw [if_pos rfl] at H; exact H
    clear H
    have H := H1
    clear H1
    obtain rfl := Option.some.inj H
    go_wp2
    go_ret
    exact ⟨rfE, by exact belS⟩
   ·replace c14 := Bool.eq_false_iff.mpr c14
    subst c14
    have H1 : (spec_sqGood.l0 kj1 l0_3 (l0_3.length : Int) 0 a0_0 a0_1 a0_2 l0_3) = some r := by rw [if_neg (show ¬ (false = true) by decide)] at H; exact H
    clear H
    have H := H1
    clear H1
    have H' := Am H
    clear H
    obtain ⟨hcz15_0, hcz15_1, hcz15_2, hcz15_3, hfz15_0, hfz15_1, hfz15_2, hfz15_3⟩ := blk4 BKBD.out
    go_wp2
    go_loopg [32] kj1 (fun kq v32 w' => ∃ (x32_2 : Int), v32 = .int .i64 x32_2 ∧ Aside0 (spec_sqGood.l0 kq l0_3 (l0_3.length : Int) x32_2 a0_0 a0_1 a0_2 l0_3 = some r) ∧ Aside0 (kq ≤ kj1) ∧ Aside0 (w'.heap[gbBD]? = some (.cells #[.int .i64 a0_0, .int .i64 a0_1, .int .i64 a0_2, (.slice A0_3 l0_3.length c0_3)] 24 (0, 0))) ∧ Aside0 (Below w.heap.size w w'))
    case atStart => exact ⟨(0), rfS, H', ⟨Nat.le_refl _⟩, ⟨by first | exact blk_up BKBD.out | exact BKBD.out⟩, ⟨by exact belS⟩⟩
    case round =>
     clear H'
     try clear c14
     try clear hcz15_0 hcz15_1 hcz15_2 hcz15_3
     try clear hfz15_0 hfz15_1 hfz15_2 hfz15_3
     obtain ⟨x32_2, rfl, HA, HK2, BKBD, HB⟩ := hrel
     cases gk with
     | zero => exact absurd HA.out (by simp [spec_sqGood.l0])
     | succ k2 =>
      have H := HA.out
      clear HA
      simp only [spec_sqGood.l0] at H
      by_cases c16 : x32_2 < (l0_3.length : Int)
      ·rw [if_pos c16] at H
       have c16b0 : decide (x32_2 < (l0_3.length : Int)) = true := decide_eq_true c16
       clear c16
       by_cases c17 : 0 ≤ x32_2
       ·rw [if_pos c17] at H
        have c17b0 : decide (0 ≤ x32_2) = true := decide_eq_true c17
        clear c17
        by_cases c18 : x32_2 < (l0_3.length : Int)
        ·rw [if_pos c18] at H
         have c18b0 : decide (x32_2 < (l0_3.length : Int)) = true := decide_eq_true c18
         clear c18
         have HC19 := Am H
         clear H
         have pBH : 0 ≤ (x32_2 : Int) := ofd
         have qBH : x32_2 < (l0_3.length : Int) := ofd
         obtain ⟨adBH, eBH, hxBH_0, hxBH_1⟩ := at_T61 HR0_3.out x32_2 pBH qBH
         cases eBH
         first | (replace hxBH_0 := (HB.out.cell (World.block_lt_of_cell? w _ hxBH_0)).trans hxBH_0) | skip
         first | (replace hxBH_1 := (HB.out.cell (World.block_lt_of_cell? w _ hxBH_1)).trans hxBH_1) | skip
         replace pBH := eq_true pBH
         replace qBH := eq_true qBH
         go_upto_region 6 with (first | ((with_reducible refine gate_dst (N := 4) rfl ?_); (try (refine gate_guard (by rfl) ?_; dsimp only)); refine box_event (by rfl) (N := 4) (by rfl) (cs := #[.int .i64 0, .int .i64 0]) (t := 61) hrS ?_; intro gbBI hg w20 hbox hb; have n0_ := Am (blk_below (blk_up BKBD.out) hb); have n1_ := Am (below_step belS hb); have n2_ := Am (hbox); have n3_ := Am (geS hg : w.heap.size ≤ gbBI); have n4_ := n3_; have n5_ := Am ((by rw [hg]; exact Nat.ne_of_lt (blk_lt (blk_up BKBD.out)) : gbBD ≠ gbBI)); have n6_ := Am ((by rw [hg]; exact Nat.ne_of_gt (blk_lt (blk_up BKBD.out)) : gbBI ≠ gbBD)); clear BKBD HB; revert n0_ n1_ n2_ n3_ n4_ n5_ n6_; intro BKBD HB BKBI GWBI GEBI NBBD_BI NBBI_BD; clear hb hbox hg; have hnb21 := NBBI_BD.out; have hnc21 := NBBD_BI.out; obtain ⟨hcz22_0, hcz22_1, hfz22_0, hfz22_1⟩ := blk2 BKBI.out))
         (try simp only [Act.put, sA_, sB_, sC_])
         go_cut [58] (fun v58 wc => ∃ (kq : Nat) (x58_18 : Bool), v58 = .bool x58_18 ∧ Aside0 (spec_sqGood.j2 kq x32_2 l0_3 (l0_3.length : Int) x32_2 x58_18 a0_0 a0_1 a0_2 l0_3 ((rd_T61 l0_3 x32_2).f0) ((rd_T61 l0_3 x32_2).f1) = some r) ∧ Aside0 (kq ≤ k2) ∧ Aside0 (wc.heap[gbBD]? = some (.cells #[.int .i64 a0_0, .int .i64 a0_1, .int .i64 a0_2, (.slice (some adBH) l0_3.length c0_3)] 24 (0, 0))) ∧ Aside0 (wc.heap[gbBI]? = some (.cells #[.int .i64 ((rd_T61 l0_3 x32_2).f0), .int .i64 ((rd_T61 l0_3 x32_2).f1)] 61 (0, 0))) ∧ Aside0 (Below w.heap.size w wc))
         case first =>
          have H := HC19.out
          clear HC19
          replace H := Option.bind_eq_some_iff.mp H
          obtain ⟨tBJ, A230, H⟩ := H
          replace H : (if tBJ = true then ((spec_l1In.f ((rd_T61 l0_3 x32_2).f1) 0 a0_0).bind fun tBK => (if tBK = true then (spec_sqGood.j2 k2 x32_2 l0_3 (l0_3.length : Int) x32_2 (((rd_T61 l0_3 x32_2).f0) == ((rd_T61 l0_3 x32_2).f1)) a0_0 a0_1 a0_2 l0_3 ((rd_T61 l0_3 x32_2).f0) ((rd_T61 l0_3 x32_2).f1)) else (spec_sqGood.j2 k2 x32_2 l0_3 (l0_3.length : Int) x32_2 true a0_0 a0_1 a0_2 l0_3 ((rd_T61 l0_3 x32_2).f0) ((rd_T61 l0_3 x32_2).f1)))) else (spec_sqGood.j2 k2 x32_2 l0_3 (l0_3.length : Int) x32_2 true a0_0 a0_1 a0_2 l0_3 ((rd_T61 l0_3 x32_2).f0) ((rd_T61 l0_3 x32_2).f1))) = some r := H
          have A23 := Am A230
          clear A230
          by_cases c24 : tBJ = true
          ·subst c24
           have H1 : ((spec_l1In.f ((rd_T61 l0_3 x32_2).f1) 0 a0_0).bind fun tBK => (if tBK = true then (spec_sqGood.j2 k2 x32_2 l0_3 (l0_3.length : Int) x32_2 (((rd_T61 l0_3 x32_2).f0) == ((rd_T61 l0_3 x32_2).f1)) a0_0 a0_1 a0_2 l0_3 ((rd_T61 l0_3 x32_2).f0) ((rd_T61 l0_3 x32_2).f1)) else (spec_sqGood.j2 k2 x32_2 l0_3 (l0_3.length : Int) x32_2 true a0_0 a0_1 a0_2 l0_3 ((rd_T61 l0_3 x32_2).f0) ((rd_T61 l0_3 x32_2).f1)))) = some r := by rw [if_pos rfl] at H; exact H
           clear H
           have H := H1
           clear H1
           replace H := Option.bind_eq_some_iff.mp H
           obtain ⟨tBK, A250, H⟩ := H
           replace H : (if tBK = true then (spec_sqGood.j2 k2 x32_2 l0_3 (l0_3.length : Int) x32_2 (((rd_T61 l0_3 x32_2).f0) == ((rd_T61 l0_3 x32_2).f1)) a0_0 a0_1 a0_2 l0_3 ((rd_T61 l0_3 x32_2).f0) ((rd_T61 l0_3 x32_2).f1)) else (spec_sqGood.j2 k2 x32_2 l0_3 (l0_3.length : Int) x32_2 true a0_0 a0_1 a0_2 l0_3 ((rd_T61 l0_3 x32_2).f0) ((rd_T61 l0_3 x32_2).f1))) = some r := H
           have A25 := Am A250
           clear A250
           by_cases c26 : tBK = true
           ·subst c26
            have H1 : (spec_sqGood.j2 k2 x32_2 l0_3 (l0_3.length : Int) x32_2 (((rd_T61 l0_3 x32_2).f0) == ((rd_T61 l0_3 x32_2).f1)) a0_0 a0_1 a0_2 l0_3 ((rd_T61 l0_3 x32_2).f0) ((rd_T61 l0_3 x32_2).f1)) = some r := by rw [if_pos rfl] at H; exact H
            clear H
            have H := H1
            clear H1
            have H' := Am H
            clear H
            have hnb27 := NBBI_BD.out
            have hnc27 := NBBD_BI.out
            obtain ⟨hcz28_0, hcz28_1, hfz28_0, hfz28_1⟩ := blk2 BKBI.out
            obtain ⟨hcz29_0, hcz29_1, hcz29_2, hcz29_3, hfz29_0, hfz29_1, hfz29_2, hfz29_3⟩ := blk4 BKBD.out
            go_wp2_with (first | ((with_reducible refine gate_callee (f := 55) rfl ?_); refine goesL_ (some 42) rfl rfl Tryd.func55 (by kernel_rfl) rfl #[.int .i64 ((rd_T61 l0_3 x32_2).f0), .int .i64 1, .int .i64 (wrap64 (a0_0 - 1))] rfl argS ?_; (with_reducible refine (spec_l1In.calls ((rd_T61 l0_3 x32_2).f0) 1 (wrap64 (a0_0 - 1)) true _ A23.out).mono ?_); rintro e w' ⟨rfl, ⟨nd, rfl⟩⟩; refine ⟨_, rfl, ?_⟩) | (go_at_call 55; (with_reducible refine (spec_l1In.calls ((rd_T61 l0_3 x32_2).f1) 0 a0_0 true _ A25.out).mono ?_); rintro e w' ⟨rfl, ⟨nd, rfl⟩⟩))
            go_meet
            case rel => exact ⟨_, ((((rd_T61 l0_3 x32_2).f0) == ((rd_T61 l0_3 x32_2).f1))), rfS, H', ⟨by have := HJ1.out; have := HK2.out; first | omega | exact Nat.le_refl _⟩, ⟨by (with_reducible repeat (first | refine blk_drewN ?_ _ | refine blk_drew ?_ | refine blk_alloc ?_ _)); refine blk_farU ?_ NBBD_BI.out _; refine blk_farU ?_ NBBD_BI.out _; exact BKBD.out⟩, ⟨by (with_reducible repeat (first | refine blk_drewN ?_ _ | refine blk_drew ?_ | refine blk_alloc ?_ _)); refine blk_put (cs := #[.int .i64 ((rd_T61 l0_3 x32_2).f0), .int .i64 0]) ?_ 1 _ rfl; refine blk_putU (cs := #[.int .i64 0, .int .i64 0]) ?_ 0 _ rfl; exact BKBI.out⟩, ⟨by exact belS⟩⟩
           ·replace c26 := Bool.eq_false_iff.mpr c26
            subst c26
            have H1 : (spec_sqGood.j2 k2 x32_2 l0_3 (l0_3.length : Int) x32_2 true a0_0 a0_1 a0_2 l0_3 ((rd_T61 l0_3 x32_2).f0) ((rd_T61 l0_3 x32_2).f1)) = some r := by rw [if_neg (show ¬ (false = true) by decide)] at H; exact H
            clear H
            have H := H1
            clear H1
            have H' := Am H
            clear H
            have hnb30 := NBBI_BD.out
            have hnc30 := NBBD_BI.out
            obtain ⟨hcz31_0, hcz31_1, hfz31_0, hfz31_1⟩ := blk2 BKBI.out
            obtain ⟨hcz32_0, hcz32_1, hcz32_2, hcz32_3, hfz32_0, hfz32_1, hfz32_2, hfz32_3⟩ := blk4 BKBD.out
            go_wp2_with (first | ((with_reducible refine gate_callee (f := 55) rfl ?_); refine goesL_ (some 42) rfl rfl Tryd.func55 (by kernel_rfl) rfl #[.int .i64 ((rd_T61 l0_3 x32_2).f0), .int .i64 1, .int .i64 (wrap64 (a0_0 - 1))] rfl argS ?_; (with_reducible refine (spec_l1In.calls ((rd_T61 l0_3 x32_2).f0) 1 (wrap64 (a0_0 - 1)) true _ A23.out).mono ?_); rintro e w' ⟨rfl, ⟨nd, rfl⟩⟩; refine ⟨_, rfl, ?_⟩) | (go_at_call 55; (with_reducible refine (spec_l1In.calls ((rd_T61 l0_3 x32_2).f1) 0 a0_0 false _ A25.out).mono ?_); rintro e w' ⟨rfl, ⟨nd, rfl⟩⟩))
            go_meet
            case rel => exact ⟨_, (true), rfS, H', ⟨by have := HJ1.out; have := HK2.out; first | omega | exact Nat.le_refl _⟩, ⟨by (with_reducible repeat (first | refine blk_drewN ?_ _ | refine blk_drew ?_ | refine blk_alloc ?_ _)); refine blk_farU ?_ NBBD_BI.out _; refine blk_farU ?_ NBBD_BI.out _; exact BKBD.out⟩, ⟨by (with_reducible repeat (first | refine blk_drewN ?_ _ | refine blk_drew ?_ | refine blk_alloc ?_ _)); refine blk_put (cs := #[.int .i64 ((rd_T61 l0_3 x32_2).f0), .int .i64 0]) ?_ 1 _ rfl; refine blk_putU (cs := #[.int .i64 0, .int .i64 0]) ?_ 0 _ rfl; exact BKBI.out⟩, ⟨by exact belS⟩⟩
          ·replace c24 := Bool.eq_false_iff.mpr c24
           subst c24
           have H1 : (spec_sqGood.j2 k2 x32_2 l0_3 (l0_3.length : Int) x32_2 true a0_0 a0_1 a0_2 l0_3 ((rd_T61 l0_3 x32_2).f0) ((rd_T61 l0_3 x32_2).f1)) = some r := by rw [if_neg (show ¬ (false = true) by decide)] at H; exact H
           clear H
           have H := H1
           clear H1
           have H' := Am H
           clear H
           have hnb33 := NBBI_BD.out
           have hnc33 := NBBD_BI.out
           obtain ⟨hcz34_0, hcz34_1, hfz34_0, hfz34_1⟩ := blk2 BKBI.out
           obtain ⟨hcz35_0, hcz35_1, hcz35_2, hcz35_3, hfz35_0, hfz35_1, hfz35_2, hfz35_3⟩ := blk4 BKBD.out
           go_wp2_with (first | ((with_reducible refine gate_callee (f := 55) rfl ?_); refine goesL_ (some 42) rfl rfl Tryd.func55 (by kernel_rfl) rfl #[.int .i64 ((rd_T61 l0_3 x32_2).f0), .int .i64 1, .int .i64 (wrap64 (a0_0 - 1))] rfl argS ?_; (with_reducible refine (spec_l1In.calls ((rd_T61 l0_3 x32_2).f0) 1 (wrap64 (a0_0 - 1)) false _ A23.out).mono ?_); rintro e w' ⟨rfl, ⟨nd, rfl⟩⟩; refine ⟨_, rfl, ?_⟩))
           go_meet
           case rel => exact ⟨_, (true), rfS, H', ⟨by have := HJ1.out; have := HK2.out; first | omega | exact Nat.le_refl _⟩, ⟨by (with_reducible repeat (first | refine blk_drewN ?_ _ | refine blk_drew ?_ | refine blk_alloc ?_ _)); refine blk_farU ?_ NBBD_BI.out _; refine blk_farU ?_ NBBD_BI.out _; exact BKBD.out⟩, ⟨by (with_reducible repeat (first | refine blk_drewN ?_ _ | refine blk_drew ?_ | refine blk_alloc ?_ _)); refine blk_put (cs := #[.int .i64 ((rd_T61 l0_3 x32_2).f0), .int .i64 0]) ?_ 1 _ rfl; refine blk_putU (cs := #[.int .i64 0, .int .i64 0]) ?_ 0 _ rfl; exact BKBI.out⟩, ⟨by exact belS⟩⟩
         case rest =>
          clear HC19
          try clear c14
          try clear c16
          try clear c16b0
          try clear c17
          try clear c17b0
          try clear c18
          try clear c18b0
          try clear hcz15_0 hcz15_1 hcz15_2 hcz15_3
          try clear hcz22_0 hcz22_1
          try clear hfz15_0 hfz15_1 hfz15_2 hfz15_3
          try clear hfz22_0 hfz22_1
          try clear hxBH_0
          try clear hxBH_1
          try clear pBH
          try clear qBH
          obtain ⟨kq, x58_18, rfl, HA, HJ18, BKBD, BKBI, HB⟩ := hcut
          cases kq with
          | zero => exact absurd HA.out (by simp [spec_sqGood.j2])
          | succ kj18 =>
           have H := HA.out
           clear HA
           simp only [spec_sqGood.j2] at H
           by_cases c36 : x58_18 = true
           ·subst c36
            have H1 : (some false) = some r := by rw [if_pos rfl] at H; exact H
            clear H
            have H := H1
            clear H1
            obtain rfl := Option.some.inj H
            go_wp2
            go_ret
            exact ⟨rfE, by exact belS⟩
           ·replace c36 := Bool.eq_false_iff.mpr c36
            subst c36
            have H1 : (if x32_2 > 0 then (if 0 ≤ (wrap64 (x32_2 - 1)) then (if (wrap64 (x32_2 - 1)) < (l0_3.length : Int) then (if ((rd_T61 l0_3 (wrap64 (x32_2 - 1))).f0) ≥ ((rd_T61 l0_3 x32_2).f0) then (some false) else (spec_sqGood.l0 kj18 l0_3 (l0_3.length : Int) (wrap64 (x32_2 + 1)) a0_0 a0_1 a0_2 l0_3)) else (none)) else (none)) else (spec_sqGood.l0 kj18 l0_3 (l0_3.length : Int) (wrap64 (x32_2 + 1)) a0_0 a0_1 a0_2 l0_3)) = some r := by rw [if_neg (show ¬ (false = true) by decide)] at H; exact H
            clear H
            have H := H1
            clear H1
            by_cases c37 : x32_2 > 0
            ·rw [if_pos c37] at H
             have c37b0 : decide (0 < x32_2) = true := decide_eq_true c37
             clear c37
             obtain ⟨ji38, hji38⟩ : ∃ j_ : Int, (wrap64 (x32_2 - 1)) = j_ := ⟨_, rfl⟩
             replace H : (if 0 ≤ (ji38) then (if (ji38) < (l0_3.length : Int) then (if ((rd_T61 l0_3 (ji38)).f0) ≥ ((rd_T61 l0_3 x32_2).f0) then (some false) else (spec_sqGood.l0 kj18 l0_3 (l0_3.length : Int) (wrap64 (x32_2 + 1)) a0_0 a0_1 a0_2 l0_3)) else (none)) else (none)) = some r := by first | (rw [hji38] at H; exact H) | (simp only [hji38] at H ⊢; exact H)
             have hji38w : (IntKind.i64.wrap (x32_2 - 1)) = ji38 := (i64_w _).trans hji38
             by_cases c39 : 0 ≤ (ji38)
             ·rw [if_pos c39] at H
              have c39b0 : decide (0 ≤ (ji38)) = true := decide_eq_true c39
              clear c39
              by_cases c40 : (ji38) < (l0_3.length : Int)
              ·rw [if_pos c40] at H
               have c40b0 : decide ((ji38) < (l0_3.length : Int)) = true := decide_eq_true c40
               clear c40
               by_cases c41 : ((rd_T61 l0_3 (ji38)).f0) ≥ ((rd_T61 l0_3 x32_2).f0)
               ·rw [if_pos c41] at H
                have c41b0 : decide (((rd_T61 l0_3 x32_2).f0) ≤ ((rd_T61 l0_3 (ji38)).f0)) = true := decide_eq_true c41
                clear c41
                obtain rfl := Option.some.inj H
                try go_wp2
                have n0_ := Am (blk_drew BKBD.out)
                have n1_ := Am (blk_drew BKBI.out)
                have n2_ := Am (below_drew1 HB.out)
                clear BKBD
                clear BKBI
                clear HB
                have BKBD := n0_
                have BKBI := n1_
                have HB := n2_
                clear n0_ n1_ n2_
                have pBL : 0 ≤ ((ji38) : Int) := ofd
                have qBL : (ji38) < (l0_3.length : Int) := ofd
                obtain ⟨adBL, eBL, hxBL_0, hxBL_1⟩ := at_T61 HR0_3.out (ji38) pBL qBL
                have hwBL_1 := hxBL_1
                have hwBL_0 := hxBL_0
                obtain rfl : adBH = adBL := (by injection eBL)
                first | (replace hxBL_0 := (HB.out.cell (World.block_lt_of_cell? w _ hxBL_0)).trans hxBL_0) | skip
                first | (replace hxBL_1 := (HB.out.cell (World.block_lt_of_cell? w _ hxBL_1)).trans hxBL_1) | skip
                replace pBL := eq_true pBL
                replace qBL := eq_true qBL
                refine start_ (n := 14) (S := fun w' => w'.cell? ⟨gbBD, 0, none⟩ = some (.int .i64 a0_0) ∧ w'.cell? ⟨gbBD, 1, none⟩ = some (.int .i64 a0_1) ∧ w'.cell? ⟨gbBD, 2, none⟩ = some (.int .i64 a0_2) ∧ w'.cell? ⟨gbBD, 3, none⟩ = some (.slice (some adBH) l0_3.length c0_3) ∧ w'.cell? ⟨gbBI, 0, none⟩ = some (.int .i64 ((rd_T61 l0_3 x32_2).f0)) ∧ w'.cell? ⟨gbBI, 1, none⟩ = some (.int .i64 ((rd_T61 l0_3 x32_2).f1)) ∧ w'.cell? (adBH.add (((ji38)).toNat * 2)) = some (.int .i64 ((rd_T61 l0_3 (ji38)).f0)) ∧ w'.cell? ⟨(adBH.add (((ji38)).toNat * 2)).block, (adBH.add (((ji38)).toNat * 2)).off + 1, none⟩ = some (.int .i64 ((rd_T61 l0_3 (ji38)).f1))) (ds := []) bSpecSqGood_0 (by kernel_rfl) rfl rfl ⟨(blk_cell BKBD.out 0).trans rfl, (blk_cell BKBD.out 1).trans rfl, (blk_cell BKBD.out 2).trans rfl, (blk_cell BKBD.out 3).trans rfl, (blk_cell BKBI.out 0).trans rfl, (blk_cell BKBI.out 1).trans rfl, ((HB.out.cell (World.block_lt_of_cell? w _ hwBL_0)).trans hwBL_0), ((HB.out.cell (World.block_lt_of_cell? w _ hwBL_1)).trans hwBL_1)⟩ (fun hHeld => ?_); refine with_tabW spec_sqGood.tab8 spec_sqGood.bits8 (fun HT_ HW_ => ?_)
                generalize wc.drew = w42 at BKBD BKBI HB hxBL_0 hxBL_1 hHeld ⊢
                refine puS 0 59 ?_
                refine puS 1 60 ?_
                refine puS 2 61 ?_
                refine puS 3 62 ?_
                refine puS 5 64 ?_
                refine puS 6 65 ?_
                refine puS 10 69 ?_
                refine tkS 4 63 ?_
                refine puS 7 66 ?_
                refine puS 8 67 ?_
                refine tkS 9 68 ?_
                refine tkS 11 70 ?_
                refine puS 12 71 ?_
                refine puS 13 72 ?_
                refine done_ (done_of HT_.out (by kernel_rfl)) ?_
                try go_wp2
                go_ret
                exact ⟨by first | rfl | (simp [errW_none, errW_some] <;> rfl) | (simp only [← hji38]; first | rfl | (simp [errW_none, errW_some] <;> rfl)) | (simp [*, errW_none, errW_some] <;> rfl), by exact belS⟩
               ·rw [if_neg c41] at H
                have c41b0 : decide (((rd_T61 l0_3 x32_2).f0) ≤ ((rd_T61 l0_3 (ji38)).f0)) = false := decide_eq_false c41
                clear c41
                have H' := Am H
                clear H
                try go_wp2
                have n0_ := Am (blk_drew BKBD.out)
                have n1_ := Am (blk_drew BKBI.out)
                have n2_ := Am (below_drew1 HB.out)
                clear BKBD
                clear BKBI
                clear HB
                have BKBD := n0_
                have BKBI := n1_
                have HB := n2_
                clear n0_ n1_ n2_
                have pBL : 0 ≤ ((ji38) : Int) := ofd
                have qBL : (ji38) < (l0_3.length : Int) := ofd
                obtain ⟨adBL, eBL, hxBL_0, hxBL_1⟩ := at_T61 HR0_3.out (ji38) pBL qBL
                have hwBL_1 := hxBL_1
                have hwBL_0 := hxBL_0
                obtain rfl : adBH = adBL := (by injection eBL)
                first | (replace hxBL_0 := (HB.out.cell (World.block_lt_of_cell? w _ hxBL_0)).trans hxBL_0) | skip
                first | (replace hxBL_1 := (HB.out.cell (World.block_lt_of_cell? w _ hxBL_1)).trans hxBL_1) | skip
                replace pBL := eq_true pBL
                replace qBL := eq_true qBL
                refine start_ (n := 14) (S := fun w' => w'.cell? ⟨gbBD, 0, none⟩ = some (.int .i64 a0_0) ∧ w'.cell? ⟨gbBD, 1, none⟩ = some (.int .i64 a0_1) ∧ w'.cell? ⟨gbBD, 2, none⟩ = some (.int .i64 a0_2) ∧ w'.cell? ⟨gbBD, 3, none⟩ = some (.slice (some adBH) l0_3.length c0_3) ∧ w'.cell? ⟨gbBI, 0, none⟩ = some (.int .i64 ((rd_T61 l0_3 x32_2).f0)) ∧ w'.cell? ⟨gbBI, 1, none⟩ = some (.int .i64 ((rd_T61 l0_3 x32_2).f1)) ∧ w'.cell? (adBH.add (((ji38)).toNat * 2)) = some (.int .i64 ((rd_T61 l0_3 (ji38)).f0)) ∧ w'.cell? ⟨(adBH.add (((ji38)).toNat * 2)).block, (adBH.add (((ji38)).toNat * 2)).off + 1, none⟩ = some (.int .i64 ((rd_T61 l0_3 (ji38)).f1))) (ds := []) bSpecSqGood_0 (by kernel_rfl) rfl rfl ⟨(blk_cell BKBD.out 0).trans rfl, (blk_cell BKBD.out 1).trans rfl, (blk_cell BKBD.out 2).trans rfl, (blk_cell BKBD.out 3).trans rfl, (blk_cell BKBI.out 0).trans rfl, (blk_cell BKBI.out 1).trans rfl, ((HB.out.cell (World.block_lt_of_cell? w _ hwBL_0)).trans hwBL_0), ((HB.out.cell (World.block_lt_of_cell? w _ hwBL_1)).trans hwBL_1)⟩ (fun hHeld => ?_); refine with_tabW spec_sqGood.tab8 spec_sqGood.bits8 (fun HT_ HW_ => ?_)
                generalize wc.drew = w43 at BKBD BKBI HB hxBL_0 hxBL_1 hHeld ⊢
                refine puS 0 59 ?_
                refine puS 1 60 ?_
                refine puS 2 61 ?_
                refine puS 3 62 ?_
                refine puS 5 64 ?_
                refine puS 6 65 ?_
                refine puS 10 69 ?_
                refine tkS 4 63 ?_
                refine puS 7 66 ?_
                refine puS 8 67 ?_
                refine tkS 9 68 ?_
                refine tkS 11 70 ?_
                refine puS 12 71 ?_
                refine puS 13 72 ?_
                refine done_ (done_of HT_.out (by kernel_rfl)) ?_
                try go_wp2
                go_roundg kj18
                case measure => have := HJ1.out; have := HK2.out; have := HJ18.out; omega
                case rel => exact ⟨(wrap64 (x32_2 + 1)), rfS, H', ⟨by have := HJ1.out; have := HK2.out; have := HJ18.out; omega⟩, ⟨by first | exact blk_up BKBD.out | exact BKBD.out⟩, ⟨by exact belS⟩⟩
              ·rw [if_neg c40] at H
               exact absurd H (by simp)
             ·rw [if_neg c39] at H
              exact absurd H (by simp)
            ·rw [if_neg c37] at H
             have c37b0 : decide (0 < x32_2) = false := decide_eq_false c37
             clear c37
             have H' := Am H
             clear H
             try go_wp2
             have n0_ := Am (blk_drew BKBD.out)
             have n1_ := Am (blk_drew BKBI.out)
             have n2_ := Am (below_drew1 HB.out)
             clear BKBD
             clear BKBI
             clear HB
             have BKBD := n0_
             have BKBI := n1_
             have HB := n2_
             clear n0_ n1_ n2_
             refine start_ (n := 14) (S := fun w' => True) (ds := []) bSpecSqGood_0 (by kernel_rfl) rfl rfl trivial (fun hHeld => ?_); refine with_tabW spec_sqGood.tab8 spec_sqGood.bits8 (fun HT_ HW_ => ?_)
             generalize wc.drew = w44 at BKBD BKBI HB hHeld ⊢
             refine puS 0 59 ?_
             refine puS 1 60 ?_
             refine puS 2 61 ?_
             refine puN 3 62 ?_
             refine puN 4 63 ?_
             refine puN 5 64 ?_
             refine puN 6 65 ?_
             refine puN 7 66 ?_
             refine puN 8 67 ?_
             refine puN 9 68 ?_
             refine puN 10 69 ?_
             refine puN 11 70 ?_
             refine puN 12 71 ?_
             refine puS 13 72 ?_
             refine done_ (done_of HT_.out (by kernel_rfl)) ?_
             try go_wp2
             go_roundg kj18
             case measure => have := HJ1.out; have := HK2.out; have := HJ18.out; omega
             case rel => exact ⟨(wrap64 (x32_2 + 1)), rfS, H', ⟨by have := HJ1.out; have := HK2.out; have := HJ18.out; omega⟩, ⟨by first | exact blk_up BKBD.out | exact BKBD.out⟩, ⟨by exact belS⟩⟩
        ·rw [if_neg c18] at H
         exact absurd H (by simp)
       ·rw [if_neg c17] at H
        exact absurd H (by simp)
      ·rw [if_neg c16] at H
       have c16b0 : decide (x32_2 < (l0_3.length : Int)) = false := decide_eq_false c16
       clear c16
       have H' := Am H
       clear H
       obtain ⟨hcz45_0, hcz45_1, hcz45_2, hcz45_3, hfz45_0, hfz45_1, hfz45_2, hfz45_3⟩ := blk4 BKBD.out
       go_wp2
       go_loopg [77] k2 (fun kq v77 w' => ∃ (x77_3 : Int), v77 = .int .i64 x77_3 ∧ Aside0 (spec_sqGood.l1 kq l0_3 (l0_3.length : Int) x77_3 a0_0 a0_1 a0_2 l0_3 = some r) ∧ Aside0 (kq ≤ k2) ∧ Aside0 (w'.heap[gbBD]? = some (.cells #[.int .i64 a0_0, .int .i64 a0_1, .int .i64 a0_2, (.slice A0_3 l0_3.length c0_3)] 24 (0, 0))) ∧ Aside0 (Below w.heap.size w w'))
       case atStart => exact ⟨(0), rfS, H', ⟨Nat.le_refl _⟩, ⟨by first | exact blk_up BKBD.out | exact BKBD.out⟩, ⟨by exact belS⟩⟩
       case round =>
        clear H'
        try clear c14
        try clear c16
        try clear c16b0
        try clear hcz15_0 hcz15_1 hcz15_2 hcz15_3
        try clear hcz45_0 hcz45_1 hcz45_2 hcz45_3
        try clear hfz15_0 hfz15_1 hfz15_2 hfz15_3
        try clear hfz45_0 hfz45_1 hfz45_2 hfz45_3
        obtain ⟨x77_3, rfl, HA, HK3, BKBD, HB⟩ := hrel
        cases gk with
        | zero => exact absurd HA.out (by simp [spec_sqGood.l1])
        | succ k3 =>
         have H := HA.out
         clear HA
         simp only [spec_sqGood.l1] at H
         by_cases c46 : x77_3 < (l0_3.length : Int)
         ·rw [if_pos c46] at H
          have c46b0 : decide (x77_3 < (l0_3.length : Int)) = true := decide_eq_true c46
          clear c46
          by_cases c47 : 0 ≤ x77_3
          ·rw [if_pos c47] at H
           have c47b0 : decide (0 ≤ x77_3) = true := decide_eq_true c47
           clear c47
           by_cases c48 : x77_3 < (l0_3.length : Int)
           ·rw [if_pos c48] at H
            have c48b0 : decide (x77_3 < (l0_3.length : Int)) = true := decide_eq_true c48
            clear c48
            replace H := Option.bind_eq_some_iff.mp H
            obtain ⟨tBO, A490, H⟩ := H
            replace H : (if tBO = ((rd_T61 l0_3 x77_3).f1) then (spec_sqGood.l1 k3 l0_3 (l0_3.length : Int) (wrap64 (x77_3 + 1)) a0_0 a0_1 a0_2 l0_3) else (some false)) = some r := H
            have A49 := Am A490
            clear A490
            by_cases c50 : tBO = ((rd_T61 l0_3 x77_3).f1)
            ·rw [if_pos c50] at H
             have c50b0 : (tBO == ((rd_T61 l0_3 x77_3).f1)) = true := beq_iff_eq.mpr c50
             have c50b1 : (tBO != ((rd_T61 l0_3 x77_3).f1)) = false := bne_eq_false_iff_eq.mpr c50
             clear c50
             have H' := Am H
             clear H
             have pBM : 0 ≤ (x77_3 : Int) := ofd
             have qBM : x77_3 < (l0_3.length : Int) := ofd
             obtain ⟨adBM, eBM, hxBM_0, hxBM_1⟩ := at_T61 HR0_3.out x77_3 pBM qBM
             cases eBM
             first | (replace hxBM_0 := (HB.out.cell (World.block_lt_of_cell? w _ hxBM_0)).trans hxBM_0) | skip
             first | (replace hxBM_1 := (HB.out.cell (World.block_lt_of_cell? w _ hxBM_1)).trans hxBM_1) | skip
             replace pBM := eq_true pBM
             replace qBM := eq_true qBM
             try go_wp2_with (first | ((with_reducible refine gate_dst (N := 6) rfl ?_); (try (refine gate_guard (by rfl) ?_; dsimp only)); refine box_event (by rfl) (N := 6) (by rfl) (cs := #[.int .i64 0, .int .i64 0]) (t := 61) hrS ?_; intro gbBN hg w51 hbox hb; have n0_ := Am (blk_below (blk_up BKBD.out) hb); have n1_ := Am (below_step belS hb); have n2_ := Am (hbox); have n3_ := Am (geS hg : w.heap.size ≤ gbBN); have n4_ := n3_; have n5_ := Am ((by rw [hg]; exact Nat.ne_of_lt (blk_lt (blk_up BKBD.out)) : gbBD ≠ gbBN)); have n6_ := Am ((by rw [hg]; exact Nat.ne_of_gt (blk_lt (blk_up BKBD.out)) : gbBN ≠ gbBD)); clear BKBD HB; revert n0_ n1_ n2_ n3_ n4_ n5_ n6_; intro BKBD HB BKBN GWBN GEBN NBBD_BN NBBN_BD; clear hb hbox hg; have hnb52 := NBBN_BD.out; have hnc52 := NBBD_BN.out; obtain ⟨hcz53_0, hcz53_1, hfz53_0, hfz53_1⟩ := blk2 BKBN.out))
             have n0_ : Aside0 (((w51.setCell ⟨gbBN, 0, none⟩ (.int .i64 ((rd_T61 l0_3 x77_3).f0))).setCell ⟨gbBN, 1, none⟩ (.int .i64 ((rd_T61 l0_3 x77_3).f1))).heap[gbBD]? = some (.cells #[.int .i64 a0_0, .int .i64 a0_1, .int .i64 a0_2, .slice (some adBM) l0_3.length c0_3] 24 (0, 0))) := ⟨by (with_reducible repeat (first | refine blk_drewN ?_ _ | refine blk_drew ?_ | refine blk_alloc ?_ _)); refine blk_farU ?_ NBBD_BN.out _; refine blk_farU ?_ NBBD_BN.out _; exact BKBD.out⟩
             have n1_ : Aside0 (((w51.setCell ⟨gbBN, 0, none⟩ (.int .i64 ((rd_T61 l0_3 x77_3).f0))).setCell ⟨gbBN, 1, none⟩ (.int .i64 ((rd_T61 l0_3 x77_3).f1))).heap[gbBN]? = some (.cells #[.int .i64 ((rd_T61 l0_3 x77_3).f0), .int .i64 ((rd_T61 l0_3 x77_3).f1)] 61 (0, 0))) := ⟨by (with_reducible repeat (first | refine blk_drewN ?_ _ | refine blk_drew ?_ | refine blk_alloc ?_ _)); refine blk_put (cs := #[.int .i64 ((rd_T61 l0_3 x77_3).f0), .int .i64 0]) ?_ 1 _ rfl; refine blk_putU (cs := #[.int .i64 0, .int .i64 0]) ?_ 0 _ rfl; exact BKBN.out⟩
             have n2_ : Aside0 (Below w.heap.size w ((w51.setCell ⟨gbBN, 0, none⟩ (.int .i64 ((rd_T61 l0_3 x77_3).f0))).setCell ⟨gbBN, 1, none⟩ (.int .i64 ((rd_T61 l0_3 x77_3).f1)))) := ⟨by exact belS⟩
             (try clear BKBD)
             (try clear BKBN)
             (try clear HB)
             generalize ((w51.setCell ⟨gbBN, 0, none⟩ (.int .i64 ((rd_T61 l0_3 x77_3).f0))).setCell ⟨gbBN, 1, none⟩ (.int .i64 ((rd_T61 l0_3 x77_3).f1))) = w54 at n0_ n1_ n2_ ⊢
             have BKBD := n0_
             have BKBN := n1_
             have HB := n2_
             clear n0_ n1_ n2_
             have n0_ := Am (blk_drew BKBD.out)
             have n1_ := Am (blk_drew BKBN.out)
             have n2_ := Am (below_drew1 HB.out)
             clear BKBD
             clear BKBN
             clear HB
             have BKBD := n0_
             have BKBN := n1_
             have HB := n2_
             clear n0_ n1_ n2_
             refine start_ (n := 7) (S := fun w' => w'.cell? ⟨gbBD, 0, none⟩ = some (.int .i64 a0_0) ∧ w'.cell? ⟨gbBD, 1, none⟩ = some (.int .i64 a0_1) ∧ w'.cell? ⟨gbBD, 2, none⟩ = some (.int .i64 a0_2) ∧ w'.cell? ⟨gbBD, 3, none⟩ = some (.slice (some adBM) l0_3.length c0_3) ∧ w'.cell? ⟨gbBN, 0, none⟩ = some (.int .i64 ((rd_T61 l0_3 x77_3).f0)) ∧ w'.cell? ⟨gbBN, 1, none⟩ = some (.int .i64 ((rd_T61 l0_3 x77_3).f1))) (ds := []) bSpecSqGood_15 (by kernel_rfl) rfl rfl ⟨(blk_cell BKBD.out 0).trans rfl, (blk_cell BKBD.out 1).trans rfl, (blk_cell BKBD.out 2).trans rfl, (blk_cell BKBD.out 3).trans rfl, (blk_cell BKBN.out 0).trans rfl, (blk_cell BKBN.out 1).trans rfl⟩ (fun hHeld => ?_)
             generalize w54.drew = w55 at BKBD BKBN HB hHeld ⊢
             refine pure_ (i := 1) (N := some 82) (v := ?_) (a' := ?_) bSpecSqGood_16 rfl rfl (by kernel_rfl) (fun _ _ _ h => h) (Or.inl ⟨by rfl, ?_⟩) ?_ ?_
             rotate_left
             ·intro w'
              go_simp
              with_reducible rfl
             rotate_left
             ·simp only [Act.put, sA_, sB_, sC_, i64_w, i32_w]
              rfl
             refine pure_ (i := 4) (N := some 85) (v := ?_) (a' := ?_) bSpecSqGood_17 rfl rfl (by kernel_rfl) (fun _ _ _ h => h) (Or.inl ⟨by rfl, ?_⟩) ?_ ?_
             rotate_left
             ·intro w'
              go_simp
              with_reducible rfl
             rotate_left
             ·simp only [Act.put, sA_, sB_, sC_, i64_w, i32_w]
              rfl
             refine take_ (i := 0) (N := some 81) (v := ?_) (a' := ?_) bSpecSqGood_18 rfl rfl (by kernel_rfl) (fun _ _ _ h => h) (Or.inl ⟨by rfl, ?_⟩) hHeld ?_ ?_
             rotate_left
             ·rintro w' ⟨s0, s1, s2, s3, s4, s5⟩
              go_simp
              with_reducible rfl
             rotate_left
             ·simp only [Act.put, sA_, sB_, sC_, i64_w, i32_w]
              rfl
             refine take_ (i := 2) (N := some 83) (v := ?_) (a' := ?_) bSpecSqGood_19 rfl rfl (by kernel_rfl) (fun _ _ _ h => h) (Or.inl ⟨by rfl, ?_⟩) hHeld ?_ ?_
             rotate_left
             ·rintro w' ⟨s0, s1, s2, s3, s4, s5⟩
              go_simp
              with_reducible rfl
             rotate_left
             ·simp only [Act.put, sA_, sB_, sC_, i64_w, i32_w]
              rfl
             refine take_ (i := 5) (N := some 86) (v := ?_) (a' := ?_) bSpecSqGood_20 rfl rfl (by kernel_rfl) (fun _ _ _ h => h) (Or.inl ⟨by rfl, ?_⟩) hHeld ?_ ?_
             rotate_left
             ·rintro w' ⟨s0, s1, s2, s3, s4, s5⟩
              go_simp
              with_reducible rfl
             rotate_left
             ·simp only [Act.put, sA_, sB_, sC_, i64_w, i32_w]
              rfl
             refine one_ (i := 3) (N := some 84) bSpecSqGood_21 rfl rfl (by kernel_rfl) (by decide) (fun K hK => ?_)
             refine goes_ Tryd.func56 (by kernel_rfl) rfl #[.agg #[.int .i64 a0_0, .int .i64 a0_1, .int .i64 a0_2, .slice (some adBM) l0_3.length c0_3], .int .i64 ((rd_T61 l0_3 x77_3).f1)] (by rfl) rfl rfl argS ?_
             with_reducible refine (spec_sqJump.calls k3 a0_0 a0_1 a0_2 _ _ l0_3 ((rd_T61 l0_3 x77_3).f1) tBO _ ?side1 ?side2 A49.out).mono ?_
             (case side1 => exact Kd.C_up (Kd.C_below HR0_3.out HB.out))
             (case side2 => exact HC0_3.out)
             rintro e w56 ⟨rfl, hb⟩
             refine ⟨_, rfl, ?_⟩
             have n0_ := Am (blk_below (blk_up BKBD.out) hb)
             have n1_ := Am (blk_below (blk_up BKBN.out) hb)
             have n2_ := Am (below_step belS hb)
             clear BKBD
             clear BKBN
             clear HB
             have BKBD := n0_
             have BKBN := n1_
             have HB := n2_
             clear n0_ n1_ n2_
             (try clear hb)
             (try clear hb2)
             (try clear hk)
             (try clear hi)
             refine hK.out _ _ ⟨(blk_cell BKBD.out 0).trans rfl, (blk_cell BKBD.out 1).trans rfl, (blk_cell BKBD.out 2).trans rfl, (blk_cell BKBD.out 3).trans rfl, (blk_cell BKBN.out 0).trans rfl, (blk_cell BKBN.out 1).trans rfl⟩ (fun hHeld => ?_)
             clear hK K
             refine norm_ (a' := ?_) ?_ ?_
             rotate_left
             ·show Act.put _ (some 84) _ = _
              simp only [Act.put, sA_, sB_, sC_, i64_w, i32_w]
              rfl
             refine pure_ (i := 6) (N := some 87) (v := ?_) (a' := ?_) bSpecSqGood_22 rfl rfl (by kernel_rfl) (fun _ _ _ h => h) (Or.inl ⟨by rfl, ?_⟩) ?_ ?_
             rotate_left
             ·intro w'
              go_simp
              with_reducible rfl
             rotate_left
             ·simp only [Act.put, sA_, sB_, sC_, i64_w, i32_w]
              rfl
             refine done_ (by kernel_rfl) ?_
             try go_wp2
             go_roundg k3
             case measure => have := HJ1.out; have := HK2.out; have := HK3.out; omega
             case rel => exact ⟨(wrap64 (x77_3 + 1)), rfS, H', ⟨by have := HJ1.out; have := HK2.out; have := HK3.out; omega⟩, ⟨by first | exact blk_up BKBD.out | exact BKBD.out⟩, ⟨by exact belS⟩⟩
            ·rw [if_neg c50] at H
             have c50b0 : (tBO == ((rd_T61 l0_3 x77_3).f1)) = false := beq_eq_false_iff_ne.mpr c50
             have c50b1 : (tBO != ((rd_T61 l0_3 x77_3).f1)) = true := bne_iff_ne.mpr c50
             obtain rfl := Option.some.inj H
             have pBM : 0 ≤ (x77_3 : Int) := ofd
             have qBM : x77_3 < (l0_3.length : Int) := ofd
             obtain ⟨adBM, eBM, hxBM_0, hxBM_1⟩ := at_T61 HR0_3.out x77_3 pBM qBM
             cases eBM
             first | (replace hxBM_0 := (HB.out.cell (World.block_lt_of_cell? w _ hxBM_0)).trans hxBM_0) | skip
             first | (replace hxBM_1 := (HB.out.cell (World.block_lt_of_cell? w _ hxBM_1)).trans hxBM_1) | skip
             replace pBM := eq_true pBM
             replace qBM := eq_true qBM
             try go_wp2_with (first | ((with_reducible refine gate_dst (N := 6) rfl ?_); (try (refine gate_guard (by rfl) ?_; dsimp only)); refine box_event (by rfl) (N := 6) (by rfl) (cs := #[.int .i64 0, .int .i64 0]) (t := 61) hrS ?_; intro gbBN hg w57 hbox hb; have n0_ := Am (blk_below (blk_up BKBD.out) hb); have n1_ := Am (below_step belS hb); have n2_ := Am (hbox); have n3_ := Am (geS hg : w.heap.size ≤ gbBN); have n4_ := n3_; have n5_ := Am ((by rw [hg]; exact Nat.ne_of_lt (blk_lt (blk_up BKBD.out)) : gbBD ≠ gbBN)); have n6_ := Am ((by rw [hg]; exact Nat.ne_of_gt (blk_lt (blk_up BKBD.out)) : gbBN ≠ gbBD)); clear BKBD HB; revert n0_ n1_ n2_ n3_ n4_ n5_ n6_; intro BKBD HB BKBN GWBN GEBN NBBD_BN NBBN_BD; clear hb hbox hg; have hnb58 := NBBN_BD.out; have hnc58 := NBBD_BN.out; obtain ⟨hcz59_0, hcz59_1, hfz59_0, hfz59_1⟩ := blk2 BKBN.out))
             have n0_ : Aside0 (((w57.setCell ⟨gbBN, 0, none⟩ (.int .i64 ((rd_T61 l0_3 x77_3).f0))).setCell ⟨gbBN, 1, none⟩ (.int .i64 ((rd_T61 l0_3 x77_3).f1))).heap[gbBD]? = some (.cells #[.int .i64 a0_0, .int .i64 a0_1, .int .i64 a0_2, .slice (some adBM) l0_3.length c0_3] 24 (0, 0))) := ⟨by (with_reducible repeat (first | refine blk_drewN ?_ _ | refine blk_drew ?_ | refine blk_alloc ?_ _)); refine blk_farU ?_ NBBD_BN.out _; refine blk_farU ?_ NBBD_BN.out _; exact BKBD.out⟩
             have n1_ : Aside0 (((w57.setCell ⟨gbBN, 0, none⟩ (.int .i64 ((rd_T61 l0_3 x77_3).f0))).setCell ⟨gbBN, 1, none⟩ (.int .i64 ((rd_T61 l0_3 x77_3).f1))).heap[gbBN]? = some (.cells #[.int .i64 ((rd_T61 l0_3 x77_3).f0), .int .i64 ((rd_T61 l0_3 x77_3).f1)] 61 (0, 0))) := ⟨by (with_reducible repeat (first | refine blk_drewN ?_ _ | refine blk_drew ?_ | refine blk_alloc ?_ _)); refine blk_put (cs := #[.int .i64 ((rd_T61 l0_3 x77_3).f0), .int .i64 0]) ?_ 1 _ rfl; refine blk_putU (cs := #[.int .i64 0, .int .i64 0]) ?_ 0 _ rfl; exact BKBN.out⟩
             have n2_ : Aside0 (Below w.heap.size w ((w57.setCell ⟨gbBN, 0, none⟩ (.int .i64 ((rd_T61 l0_3 x77_3).f0))).setCell ⟨gbBN, 1, none⟩ (.int .i64 ((rd_T61 l0_3 x77_3).f1)))) := ⟨by exact belS⟩
             (try clear BKBD)
             (try clear BKBN)
             (try clear HB)
             generalize ((w57.setCell ⟨gbBN, 0, none⟩ (.int .i64 ((rd_T61 l0_3 x77_3).f0))).setCell ⟨gbBN, 1, none⟩ (.int .i64 ((rd_T61 l0_3 x77_3).f1))) = w60 at n0_ n1_ n2_ ⊢
             have BKBD := n0_
             have BKBN := n1_
             have HB := n2_
             clear n0_ n1_ n2_
             have n0_ := Am (blk_drew BKBD.out)
             have n1_ := Am (blk_drew BKBN.out)
             have n2_ := Am (below_drew1 HB.out)
             clear BKBD
             clear BKBN
             clear HB
             have BKBD := n0_
             have BKBN := n1_
             have HB := n2_
             clear n0_ n1_ n2_
             refine start_ (n := 7) (S := fun w' => w'.cell? ⟨gbBD, 0, none⟩ = some (.int .i64 a0_0) ∧ w'.cell? ⟨gbBD, 1, none⟩ = some (.int .i64 a0_1) ∧ w'.cell? ⟨gbBD, 2, none⟩ = some (.int .i64 a0_2) ∧ w'.cell? ⟨gbBD, 3, none⟩ = some (.slice (some adBM) l0_3.length c0_3) ∧ w'.cell? ⟨gbBN, 0, none⟩ = some (.int .i64 ((rd_T61 l0_3 x77_3).f0)) ∧ w'.cell? ⟨gbBN, 1, none⟩ = some (.int .i64 ((rd_T61 l0_3 x77_3).f1))) (ds := []) bSpecSqGood_15 (by kernel_rfl) rfl rfl ⟨(blk_cell BKBD.out 0).trans rfl, (blk_cell BKBD.out 1).trans rfl, (blk_cell BKBD.out 2).trans rfl, (blk_cell BKBD.out 3).trans rfl, (blk_cell BKBN.out 0).trans rfl, (blk_cell BKBN.out 1).trans rfl⟩ (fun hHeld => ?_)
             generalize w60.drew = w61 at BKBD BKBN HB hHeld ⊢
             refine pure_ (i := 1) (N := some 82) (v := ?_) (a' := ?_) bSpecSqGood_16 rfl rfl (by kernel_rfl) (fun _ _ _ h => h) (Or.inl ⟨by rfl, ?_⟩) ?_ ?_
             rotate_left
             ·intro w'
              go_simp
              with_reducible rfl
             rotate_left
             ·simp only [Act.put, sA_, sB_, sC_, i64_w, i32_w]
              rfl
             refine pure_ (i := 4) (N := some 85) (v := ?_) (a' := ?_) bSpecSqGood_17 rfl rfl (by kernel_rfl) (fun _ _ _ h => h) (Or.inl ⟨by rfl, ?_⟩) ?_ ?_
             rotate_left
             ·intro w'
              go_simp
              with_reducible rfl
             rotate_left
             ·simp only [Act.put, sA_, sB_, sC_, i64_w, i32_w]
              rfl
             refine take_ (i := 0) (N := some 81) (v := ?_) (a' := ?_) bSpecSqGood_18 rfl rfl (by kernel_rfl) (fun _ _ _ h => h) (Or.inl ⟨by rfl, ?_⟩) hHeld ?_ ?_
             rotate_left
             ·rintro w' ⟨s0, s1, s2, s3, s4, s5⟩
              go_simp
              with_reducible rfl
             rotate_left
             ·simp only [Act.put, sA_, sB_, sC_, i64_w, i32_w]
              rfl
             refine take_ (i := 2) (N := some 83) (v := ?_) (a' := ?_) bSpecSqGood_19 rfl rfl (by kernel_rfl) (fun _ _ _ h => h) (Or.inl ⟨by rfl, ?_⟩) hHeld ?_ ?_
             rotate_left
             ·rintro w' ⟨s0, s1, s2, s3, s4, s5⟩
              go_simp
              with_reducible rfl
             rotate_left
             ·simp only [Act.put, sA_, sB_, sC_, i64_w, i32_w]
              rfl
             refine take_ (i := 5) (N := some 86) (v := ?_) (a' := ?_) bSpecSqGood_20 rfl rfl (by kernel_rfl) (fun _ _ _ h => h) (Or.inl ⟨by rfl, ?_⟩) hHeld ?_ ?_
             rotate_left
             ·rintro w' ⟨s0, s1, s2, s3, s4, s5⟩
              go_simp
              with_reducible rfl
             rotate_left
             ·simp only [Act.put, sA_, sB_, sC_, i64_w, i32_w]
              rfl
             refine one_ (i := 3) (N := some 84) bSpecSqGood_21 rfl rfl (by kernel_rfl) (by decide) (fun K hK => ?_)
             refine goes_ Tryd.func56 (by kernel_rfl) rfl #[.agg #[.int .i64 a0_0, .int .i64 a0_1, .int .i64 a0_2, .slice (some adBM) l0_3.length c0_3], .int .i64 ((rd_T61 l0_3 x77_3).f1)] (by rfl) rfl rfl argS ?_
             with_reducible refine (spec_sqJump.calls k3 a0_0 a0_1 a0_2 _ _ l0_3 ((rd_T61 l0_3 x77_3).f1) tBO _ ?side1 ?side2 A49.out).mono ?_
             (case side1 => exact Kd.C_up (Kd.C_below HR0_3.out HB.out))
             (case side2 => exact HC0_3.out)
             rintro e w62 ⟨rfl, hb⟩
             refine ⟨_, rfl, ?_⟩
             have n0_ := Am (blk_below (blk_up BKBD.out) hb)
             have n1_ := Am (blk_below (blk_up BKBN.out) hb)
             have n2_ := Am (below_step belS hb)
             clear BKBD
             clear BKBN
             clear HB
             have BKBD := n0_
             have BKBN := n1_
             have HB := n2_
             clear n0_ n1_ n2_
             (try clear hb)
             (try clear hb2)
             (try clear hk)
             (try clear hi)
             refine hK.out _ _ ⟨(blk_cell BKBD.out 0).trans rfl, (blk_cell BKBD.out 1).trans rfl, (blk_cell BKBD.out 2).trans rfl, (blk_cell BKBD.out 3).trans rfl, (blk_cell BKBN.out 0).trans rfl, (blk_cell BKBN.out 1).trans rfl⟩ (fun hHeld => ?_)
             clear hK K
             refine norm_ (a' := ?_) ?_ ?_
             rotate_left
             ·show Act.put _ (some 84) _ = _
              simp only [Act.put, sA_, sB_, sC_, i64_w, i32_w]
              rfl
             refine pure_ (i := 6) (N := some 87) (v := ?_) (a' := ?_) bSpecSqGood_22 rfl rfl (by kernel_rfl) (fun _ _ _ h => h) (Or.inl ⟨by rfl, ?_⟩) ?_ ?_
             rotate_left
             ·intro w'
              go_simp
              with_reducible rfl
             rotate_left
             ·simp only [Act.put, sA_, sB_, sC_, i64_w, i32_w]
              rfl
             refine done_ (by kernel_rfl) ?_
             try go_wp2
             go_ret
             exact ⟨rfE, by exact belS⟩
           ·rw [if_neg c48] at H
            exact absurd H (by simp)
          ·rw [if_neg c47] at H
           exact absurd H (by simp)
         ·rw [if_neg c46] at H
          have c46b0 : decide (x77_3 < (l0_3.length : Int)) = false := decide_eq_false c46
          clear c46
          obtain rfl := Option.some.inj H
          go_wp2
          go_ret
          exact ⟨rfE, by exact belS⟩

end

section
/-! ### spec_sqSquare: function 59 -/
def spec_sqSquare.f (k : Nat) (a0_0 : Int) (a0_1 : Int) (a0_2 : Int) (l0_3 : List (S61)) (a1 : Int) : Option (Bool) := (spec_l1In.f a1 0 a0_0).bind fun tBE => (if tBE = true then ((spec_sqJump.f k a0_0 a0_1 a0_2 l0_3 a1).bind fun tBF => (some (tBF == a1))) else (some false))
set_option maxHeartbeats 8000000 in
set_option maxRecDepth 100000 in
theorem spec_sqSquare.calls (k : Nat) (a0_0 : Int) (a0_1 : Int) (a0_2 : Int) (A0_3 : Option Addr) (c0_3 : Nat) (l0_3 : List (S61)) (a1 : Int) (r : Bool) (w : World) (hr0_3 : Kd.C k61 w A0_3 l0_3.length l0_3) (hc0_3 : l0_3.length ≤ c0_3) (h : spec_sqSquare.f k a0_0 a0_1 a0_2 l0_3 a1 = some r) :
  Calls Tryd.prog 59 #[.agg #[.int .i64 a0_0, .int .i64 a0_1, .int .i64 a0_2, .slice A0_3 l0_3.length c0_3], .int .i64 a1] w fun e w' => e = .returned (.bool r) ∧ Below w.heap.size w w' := by
 have hu24 := Tryd.underlying24
 have HR0_3 := Am hr0_3
 have HC0_3 := Am hc0_3
 clear hr0_3 hc0_3
 have HB := Am (Below.refl w.heap.size w)
 have H : ((spec_l1In.f a1 0 a0_0).bind fun tBE => (if tBE = true then ((spec_sqJump.f k a0_0 a0_1 a0_2 l0_3 a1).bind fun tBF => (some (tBF == a1))) else (some false))) = some r := h
 clear h
 replace H := Option.bind_eq_some_iff.mp H
 obtain ⟨tBE, A30, H⟩ := H
 replace H : (if tBE = true then ((spec_sqJump.f k a0_0 a0_1 a0_2 l0_3 a1).bind fun tBF => (some (tBF == a1))) else (some false)) = some r := H
 have A3 := Am A30
 clear A30
 by_cases c4 : tBE = true
 ·subst c4
  have H1 : ((spec_sqJump.f k a0_0 a0_1 a0_2 l0_3 a1).bind fun tBF => (some (tBF == a1))) = some r := by rw [if_pos rfl] at H; exact H
  clear H
  have H := H1
  clear H1
  replace H := Option.bind_eq_some_iff.mp H
  obtain ⟨tBF, A50, H⟩ := H
  replace H : (some (tBF == a1)) = some r := H
  have A5 := Am A50
  clear A50
  obtain rfl := Option.some.inj H
  go_enter Tryd.func59, Tryd.ntmps59
  go_wp2_with (first | ((with_reducible refine gate_dst (N := 2) rfl ?_); refine box_event (by rfl) (N := 2) (by rfl) (cs := #[.int .i64 a0_0, .int .i64 a0_1, .int .i64 a0_2, .slice A0_3 l0_3.length c0_3]) (t := 24) hrS ?_; intro gbBD hg w6 hbox hb; have n0_ := Am (below_step belS hb); have n1_ := Am (hbox); have n2_ := Am (geS hg : w.heap.size ≤ gbBD); have n3_ := n2_; clear HB; revert n0_ n1_ n2_ n3_; intro HB BKBD GWBD GEBD; clear hb hbox hg; obtain ⟨hcz7_0, hcz7_1, hcz7_2, hcz7_3, hfz7_0, hfz7_1, hfz7_2, hfz7_3⟩ := blk4 BKBD.out) | ((with_reducible refine gate_callee (f := 55) rfl ?_); refine goesL_ (some 8) rfl rfl Tryd.func55 (by kernel_rfl) rfl #[.int .i64 a1, .int .i64 0, .int .i64 a0_0] rfl argS ?_; (with_reducible refine (spec_l1In.calls a1 0 a0_0 true _ A3.out).mono ?_); rintro e w' ⟨rfl, ⟨nd, rfl⟩⟩; refine ⟨_, rfl, ?_⟩) | (go_at_call 56; (with_reducible refine (spec_sqJump.calls k a0_0 a0_1 a0_2 _ _ l0_3 a1 tBF _ ?side1 ?side2 A5.out).mono ?_); (case side1 => exact Kd.C_up (Kd.C_below HR0_3.out belS)); (case side2 => exact HC0_3.out); rintro e w8 ⟨rfl, hb⟩; have n0_ := Am (blk_below (blk_up BKBD.out) hb); have n1_ := Am (below_step belS hb); clear BKBD HB; revert n0_ n1_; intro BKBD HB; (try clear hb)))
  go_ret
  exact ⟨rfE, by exact belS⟩
 ·replace c4 := Bool.eq_false_iff.mpr c4
  subst c4
  have H1 : (some false) = some r := by rw [if_neg (show ¬ (false = true) by decide)] at H; exact H
  clear H
  have H := H1
  clear H1
  obtain rfl := Option.some.inj H
  go_enter Tryd.func59, Tryd.ntmps59
  go_wp2_with (first | ((with_reducible refine gate_dst (N := 2) rfl ?_); refine box_event (by rfl) (N := 2) (by rfl) (cs := #[.int .i64 a0_0, .int .i64 a0_1, .int .i64 a0_2, .slice A0_3 l0_3.length c0_3]) (t := 24) hrS ?_; intro gbBD hg w9 hbox hb; have n0_ := Am (below_step belS hb); have n1_ := Am (hbox); have n2_ := Am (geS hg : w.heap.size ≤ gbBD); have n3_ := n2_; clear HB; revert n0_ n1_ n2_ n3_; intro HB BKBD GWBD GEBD; clear hb hbox hg; obtain ⟨hcz10_0, hcz10_1, hcz10_2, hcz10_3, hfz10_0, hfz10_1, hfz10_2, hfz10_3⟩ := blk4 BKBD.out) | ((with_reducible refine gate_callee (f := 55) rfl ?_); refine goesL_ (some 8) rfl rfl Tryd.func55 (by kernel_rfl) rfl #[.int .i64 a1, .int .i64 0, .int .i64 a0_0] rfl argS ?_; (with_reducible refine (spec_l1In.calls a1 0 a0_0 false _ A3.out).mono ?_); rintro e w' ⟨rfl, ⟨nd, rfl⟩⟩; refine ⟨_, rfl, ?_⟩))
  go_ret
  exact ⟨rfE, by exact belS⟩

end

end Go.Proofs.YtnbleinhabllnaaDoor.Pr
