-- A text of the machine side, written by wip/gen.py of this repo out of the translation. Not trusted: Lean checks it.
import Derived.Test.YtnbleinhabllnaaDoorF0
import Derived.Test.YtnbleinhabllnaaDoorFGB
namespace Go.Proofs.YtnbleinhabllnaaDoor.Pr
open Go.RowKit Go.Proofs.YtnbleinhabllnaaDoorW.PrintWords Go.Proofs.YtnbleinhabllnaaDoorW.PrintLast Go.Proofs.YtnbleinhabllnaaDoorW.PrintMore
attribute [local go_sem] max2_int min2_int max_two min_two max_three min_three max_four min_four   -- for this text's walks alone
set_option linter.unusedVariables false
set_option linter.unusedSimpArgs false

abbrev bImplIsBoard_0 : Array Bool := #[false, false, false, false, false, false, false, false, false, false, false, false, false, false, false, false, false, false, false, false, false, false, false, false, false, false, false, false, false, false, false]
abbrev bImplIsBoard_6 : Array Bool := #[true, true, true, true, true, true, false, false, false, false, false, false, false, false, false, false, false, false, false, false, false, false, false, false, false, false, false, false, false, false, false]
abbrev bImplIsBoard_13 : Array Bool := #[true, true, true, true, true, true, true, true, true, true, true, true, true, false, false, false, false, false, false, false, false, false, false, false, false, false, false, false, false, false, false]
/-! ### impl_IsBoard: function 30 -/
mutual
def impl_IsBoard.j0 : Nat → Bool → Int → Int → Int → List (S61) → Option (Bool)
 | 0, _, _, _, _, _ => none
 | k + 1, x28, xBE000, xBE001, xBE002, xBE003 => if x28 = true then (some false) else (impl_IsBoard.l0 k xBE003 (xBE003.length : Int) 0 xBE000 xBE001 xBE002 xBE003)
def impl_IsBoard.l0 : Nat → List (S61) → Int → Int → Int → Int → Int → List (S61) → Option (Bool)
 | 0, _, _, _, _, _, _, _ => none
 | k + 1, x30, x31, x32, xBE000, xBE001, xBE002, xBE003 => if x32 < x31 then (if 0 ≤ x32 then (if x32 < (x30.length : Int) then ((impl_within.f ((rd_T61 x30 x32).f0) 1 (wrap64 (xBE000 - 1))).bind fun tBJ => (if tBJ = true then ((impl_within.f ((rd_T61 x30 x32).f1) 0 xBE000).bind fun tBK => (if tBK = true then (if x32 > 0 then (if 0 ≤ (wrap64 (x32 - 1)) then (if (wrap64 (x32 - 1)) < (xBE003.length : Int) then (impl_IsBoard.j2 k x30 x31 x32 (decide (((rd_T61 xBE003 (wrap64 (x32 - 1))).f0) ≥ ((rd_T61 x30 x32).f0))) xBE000 xBE001 xBE002 xBE003 ((rd_T61 x30 x32).f0) ((rd_T61 x30 x32).f1)) else (none)) else (none)) else (impl_IsBoard.j2 k x30 x31 x32 false xBE000 xBE001 xBE002 xBE003 ((rd_T61 x30 x32).f0) ((rd_T61 x30 x32).f1))) else (impl_IsBoard.j2 k x30 x31 x32 true xBE000 xBE001 xBE002 xBE003 ((rd_T61 x30 x32).f0) ((rd_T61 x30 x32).f1)))) else (impl_IsBoard.j2 k x30 x31 x32 true xBE000 xBE001 xBE002 xBE003 ((rd_T61 x30 x32).f0) ((rd_T61 x30 x32).f1)))) else (none)) else (none)) else (some true)
def impl_IsBoard.j2 : Nat → List (S61) → Int → Int → Bool → Int → Int → Int → List (S61) → Int → Int → Option (Bool)
 | 0, _, _, _, _, _, _, _, _, _, _ => none
 | k + 1, x30, x31, x32, x67, xBE000, xBE001, xBE002, xBE003, xBJ000, xBJ001 => if x67 = true then (some false) else ((impl_Board_begins.f k xBE000 xBE001 xBE002 xBE003 xBJ001).bind fun btBM => (if btBM.2 = true then (some false) else (impl_IsBoard.l0 k x30 x31 (wrap64 (x32 + 1)) xBE000 xBE001 xBE002 xBE003)))
end
def impl_IsBoard.f (k : Nat) (a0_0 : Int) (a0_1 : Int) (a0_2 : Int) (l0_3 : List (S61)) : Option (Bool) := (impl_within.f a0_0 1 100).bind fun tBE => (if tBE = true then ((impl_within.f a0_1 1 8).bind fun tBF => (if tBF = true then ((impl_within.f a0_2 0 2).bind fun tBG => (if tBG = true then (impl_IsBoard.j0 k (decide ((l0_3.length : Int) > 20)) a0_0 a0_1 a0_2 l0_3) else (impl_IsBoard.j0 k true a0_0 a0_1 a0_2 l0_3))) else (impl_IsBoard.j0 k true a0_0 a0_1 a0_2 l0_3))) else (impl_IsBoard.j0 k true a0_0 a0_1 a0_2 l0_3))
def impl_IsBoard.T6 : Bool × List (List Nat × List Nat) := (true, [([], []), ([0], [0]), ([], []), ([2], [2]), ([3], [3]), ([1, 4], [1, 4]), ([5], [5]), ([6, 5], [6]), ([7], [7]), ([8, 7], [7, 8]), ([7], [7]), ([10, 7], [7, 10]), ([9, 11, 7, 7], [7, 9, 11]), ([12, 7], [7, 12]), ([7, 13], [7, 13]), ([14, 12], [14]), ([15], [15]), ([16, 15], [15, 16]), ([17, 15, 15], [15, 17]), ([18], [18]), ([19, 18], [18, 19]), ([18], [18]), ([21, 18], [18, 21]), ([20, 22, 18], [18, 20, 22]), ([23, 18], [18, 23]), ([24, 18], [18, 24]), ([18], [18]), ([26, 18], [18, 26]), ([25, 27, 18], [18, 25, 27]), ([18, 28, 15], [15, 18, 28]), ([15, 29], [15, 29])])
def impl_IsBoard.B6 : List Nat := [0, 1, 0, 4, 12, 31, 63, 127, 255, 511, 255, 1279, 4095, 8191, 16383, 32767, 65535, 131071, 262143, 524287, 1048575, 524287, 2621439, 8388607, 16777215, 33554431, 524287, 67633151, 268435455, 536870911, 1073741823]
theorem impl_IsBoard.tab6 : rtab .any (opsOf Tryd.f30 6) = impl_IsBoard.T6 := by kernel_rfl
theorem impl_IsBoard.bits6 : waitsOk impl_IsBoard.T6.2 impl_IsBoard.B6 = true := by kernel_rfl
set_option maxHeartbeats 8000000 in
set_option maxRecDepth 100000 in
theorem impl_IsBoard.calls (k : Nat) (a0_0 : Int) (a0_1 : Int) (a0_2 : Int) (A0_3 : Option Addr) (c0_3 : Nat) (l0_3 : List (S61)) (r : Bool) (w : World) (hr0_3 : Kd.C k61 w A0_3 l0_3.length l0_3) (hc0_3 : l0_3.length ≤ c0_3) (h : impl_IsBoard.f k a0_0 a0_1 a0_2 l0_3 = some r) :
  Calls Tryd.prog 30 #[.agg #[.int .i64 a0_0, .int .i64 a0_1, .int .i64 a0_2, .slice A0_3 l0_3.length c0_3]] w fun e w' => e = .returned (.bool r) ∧ Below w.heap.size w w' := by
 have hu24 := Tryd.underlying24
 have hu61 := Tryd.underlying61
 have HR0_3 := Am hr0_3
 have HC0_3 := Am hc0_3
 clear hr0_3 hc0_3
 have HB := Am (Below.refl w.heap.size w)
 have H : ((impl_within.f a0_0 1 100).bind fun tBE => (if tBE = true then ((impl_within.f a0_1 1 8).bind fun tBF => (if tBF = true then ((impl_within.f a0_2 0 2).bind fun tBG => (if tBG = true then (impl_IsBoard.j0 k (decide ((l0_3.length : Int) > 20)) a0_0 a0_1 a0_2 l0_3) else (impl_IsBoard.j0 k true a0_0 a0_1 a0_2 l0_3))) else (impl_IsBoard.j0 k true a0_0 a0_1 a0_2 l0_3))) else (impl_IsBoard.j0 k true a0_0 a0_1 a0_2 l0_3))) = some r := h
 clear h
 have HC2 := Am H
 clear H
 go_enter Tryd.func30, Tryd.ntmps30
 go_upto_region 1 with (first | ((with_reducible refine gate_dst (N := 1) rfl ?_); (try (refine gate_guard (by rfl) ?_; dsimp only)); refine box_event (by rfl) (N := 1) (by rfl) (cs := #[.int .i64 a0_0, .int .i64 a0_1, .int .i64 a0_2, .slice A0_3 l0_3.length c0_3]) (t := 24) hrS ?_; intro gbBD hg w3 hbox hb; have n0_ := Am (below_step belS hb); have n1_ := Am (hbox); have n2_ := Am (geS hg : w.heap.size ≤ gbBD); have n3_ := n2_; clear HB; revert n0_ n1_ n2_ n3_; intro HB BKBD GWBD GEBD; clear hb hbox hg))
 (try simp only [Act.put, sA_, sB_, sC_])
 go_cut [28] (fun v28 wc => ∃ (kq : Nat) (x28_1 : Bool), v28 = .bool x28_1 ∧ Aside0 (impl_IsBoard.j0 kq x28_1 a0_0 a0_1 a0_2 l0_3 = some r) ∧ Aside0 (kq ≤ k) ∧ Aside0 (wc.heap[gbBD]? = some (.cells #[.int .i64 a0_0, .int .i64 a0_1, .int .i64 a0_2, (.slice A0_3 l0_3.length c0_3)] 24 (0, 0))) ∧ Aside0 (Below w.heap.size w wc))
 case first =>
  have H := HC2.out
  clear HC2
  replace H := Option.bind_eq_some_iff.mp H
  obtain ⟨tBE, A40, H⟩ := H
  replace H : (if tBE = true then ((impl_within.f a0_1 1 8).bind fun tBF => (if tBF = true then ((impl_within.f a0_2 0 2).bind fun tBG => (if tBG = true then (impl_IsBoard.j0 k (decide ((l0_3.length : Int) > 20)) a0_0 a0_1 a0_2 l0_3) else (impl_IsBoard.j0 k true a0_0 a0_1 a0_2 l0_3))) else (impl_IsBoard.j0 k true a0_0 a0_1 a0_2 l0_3))) else (impl_IsBoard.j0 k true a0_0 a0_1 a0_2 l0_3)) = some r := H
  have A4 := Am A40
  clear A40
  by_cases c5 : tBE = true
  ·subst c5
   have H1 : ((impl_within.f a0_1 1 8).bind fun tBF => (if tBF = true then ((impl_within.f a0_2 0 2).bind fun tBG => (if tBG = true then (impl_IsBoard.j0 k (decide ((l0_3.length : Int) > 20)) a0_0 a0_1 a0_2 l0_3) else (impl_IsBoard.j0 k true a0_0 a0_1 a0_2 l0_3))) else (impl_IsBoard.j0 k true a0_0 a0_1 a0_2 l0_3))) = some r := by rw [if_pos rfl] at H; exact H
   clear H
   have H := H1
   clear H1
   replace H := Option.bind_eq_some_iff.mp H
   obtain ⟨tBF, A60, H⟩ := H
   replace H : (if tBF = true then ((impl_within.f a0_2 0 2).bind fun tBG => (if tBG = true then (impl_IsBoard.j0 k (decide ((l0_3.length : Int) > 20)) a0_0 a0_1 a0_2 l0_3) else (impl_IsBoard.j0 k true a0_0 a0_1 a0_2 l0_3))) else (impl_IsBoard.j0 k true a0_0 a0_1 a0_2 l0_3)) = some r := H
   have A6 := Am A60
   clear A60
   by_cases c7 : tBF = true
   ·subst c7
    have H1 : ((impl_within.f a0_2 0 2).bind fun tBG => (if tBG = true then (impl_IsBoard.j0 k (decide ((l0_3.length : Int) > 20)) a0_0 a0_1 a0_2 l0_3) else (impl_IsBoard.j0 k true a0_0 a0_1 a0_2 l0_3))) = some r := by rw [if_pos rfl] at H; exact H
    clear H
    have H := H1
    clear H1
    replace H := Option.bind_eq_some_iff.mp H
    obtain ⟨tBG, A80, H⟩ := H
    replace H : (if tBG = true then (impl_IsBoard.j0 k (decide ((l0_3.length : Int) > 20)) a0_0 a0_1 a0_2 l0_3) else (impl_IsBoard.j0 k true a0_0 a0_1 a0_2 l0_3)) = some r := H
    have A8 := Am A80
    clear A80
    by_cases c9 : tBG = true
    ·subst c9
     have H1 : (impl_IsBoard.j0 k (decide ((l0_3.length : Int) > 20)) a0_0 a0_1 a0_2 l0_3) = some r := by rw [if_pos rfl] at H; exact H
     clear H
     have H := H1
     clear H1
     have H' := Am H
     clear H
     obtain ⟨hcz10_0, hcz10_1, hcz10_2, hcz10_3, hfz10_0, hfz10_1, hfz10_2, hfz10_3⟩ := blk4 BKBD.out
     go_wp2_with (first | ((with_reducible refine gate_callee (f := 50) rfl ?_); refine goesL_ (some 9) rfl rfl Tryd.func50 (by kernel_rfl) rfl #[.int .i64 a0_0, .int .i64 1, .int .i64 100] rfl argS ?_; (with_reducible refine (impl_within.calls a0_0 1 100 true _ A4.out).mono ?_); rintro e w' ⟨rfl, ⟨nd, rfl⟩⟩; refine ⟨_, rfl, ?_⟩) | (go_at_call 50; (with_reducible refine (impl_within.calls a0_1 1 8 true _ A6.out).mono ?_); rintro e w' ⟨rfl, ⟨nd, rfl⟩⟩) | (go_at_call 50; (with_reducible refine (impl_within.calls a0_2 0 2 true _ A8.out).mono ?_); rintro e w' ⟨rfl, ⟨nd, rfl⟩⟩))
     go_meet
     case rel => exact ⟨_, (decide ((l0_3.length : Int) > 20)), rfS, H', ⟨by first | omega | exact Nat.le_refl _⟩, ⟨by first | exact blk_up BKBD.out | exact BKBD.out⟩, ⟨by exact belS⟩⟩
    ·replace c9 := Bool.eq_false_iff.mpr c9
     subst c9
     have H1 : (impl_IsBoard.j0 k true a0_0 a0_1 a0_2 l0_3) = some r := by rw [if_neg (show ¬ (false = true) by decide)] at H; exact H
     clear H
     have H := H1
     clear H1
     have H' := Am H
     clear H
     obtain ⟨hcz11_0, hcz11_1, hcz11_2, hcz11_3, hfz11_0, hfz11_1, hfz11_2, hfz11_3⟩ := blk4 BKBD.out
     go_wp2_with (first | ((with_reducible refine gate_callee (f := 50) rfl ?_); refine goesL_ (some 9) rfl rfl Tryd.func50 (by kernel_rfl) rfl #[.int .i64 a0_0, .int .i64 1, .int .i64 100] rfl argS ?_; (with_reducible refine (impl_within.calls a0_0 1 100 true _ A4.out).mono ?_); rintro e w' ⟨rfl, ⟨nd, rfl⟩⟩; refine ⟨_, rfl, ?_⟩) | (go_at_call 50; (with_reducible refine (impl_within.calls a0_1 1 8 true _ A6.out).mono ?_); rintro e w' ⟨rfl, ⟨nd, rfl⟩⟩) | (go_at_call 50; (with_reducible refine (impl_within.calls a0_2 0 2 false _ A8.out).mono ?_); rintro e w' ⟨rfl, ⟨nd, rfl⟩⟩))
     go_meet
     case rel => exact ⟨_, (true), rfS, H', ⟨by first | omega | exact Nat.le_refl _⟩, ⟨by first | exact blk_up BKBD.out | exact BKBD.out⟩, ⟨by exact belS⟩⟩
   ·replace c7 := Bool.eq_false_iff.mpr c7
    subst c7
    have H1 : (impl_IsBoard.j0 k true a0_0 a0_1 a0_2 l0_3) = some r := by rw [if_neg (show ¬ (false = true) by decide)] at H; exact H
    clear H
    have H := H1
    clear H1
    have H' := Am H
    clear H
    obtain ⟨hcz12_0, hcz12_1, hcz12_2, hcz12_3, hfz12_0, hfz12_1, hfz12_2, hfz12_3⟩ := blk4 BKBD.out
    go_wp2_with (first | ((with_reducible refine gate_callee (f := 50) rfl ?_); refine goesL_ (some 9) rfl rfl Tryd.func50 (by kernel_rfl) rfl #[.int .i64 a0_0, .int .i64 1, .int .i64 100] rfl argS ?_; (with_reducible refine (impl_within.calls a0_0 1 100 true _ A4.out).mono ?_); rintro e w' ⟨rfl, ⟨nd, rfl⟩⟩; refine ⟨_, rfl, ?_⟩) | (go_at_call 50; (with_reducible refine (impl_within.calls a0_1 1 8 false _ A6.out).mono ?_); rintro e w' ⟨rfl, ⟨nd, rfl⟩⟩))
    go_meet
    case rel => exact ⟨_, (true), rfS, H', ⟨by first | omega | exact Nat.le_refl _⟩, ⟨by first | exact blk_up BKBD.out | exact BKBD.out⟩, ⟨by exact belS⟩⟩
  ·replace c5 := Bool.eq_false_iff.mpr c5
   subst c5
   have H1 : (impl_IsBoard.j0 k true a0_0 a0_1 a0_2 l0_3) = some r := by rw [if_neg (show ¬ (false = true) by decide)] at H; exact H
   clear H
   have H := H1
   clear H1
   have H' := Am H
   clear H
   obtain ⟨hcz13_0, hcz13_1, hcz13_2, hcz13_3, hfz13_0, hfz13_1, hfz13_2, hfz13_3⟩ := blk4 BKBD.out
   go_wp2_with (first | ((with_reducible refine gate_callee (f := 50) rfl ?_); refine goesL_ (some 9) rfl rfl Tryd.func50 (by kernel_rfl) rfl #[.int .i64 a0_0, .int .i64 1, .int .i64 100] rfl argS ?_; (with_reducible refine (impl_within.calls a0_0 1 100 false _ A4.out).mono ?_); rintro e w' ⟨rfl, ⟨nd, rfl⟩⟩; refine ⟨_, rfl, ?_⟩))
   go_meet
   case rel => exact ⟨_, (true), rfS, H', ⟨by first | omega | exact Nat.le_refl _⟩, ⟨by first | exact blk_up BKBD.out | exact BKBD.out⟩, ⟨by exact belS⟩⟩
 case rest =>
  clear HC2
  obtain ⟨kq, x28_1, rfl, HA, HJ1, BKBD, HB⟩ := hcut
  cases kq with
  | zero => exact absurd HA.out (by simp [impl_IsBoard.j0])
  | succ kj1 =>
   have H := HA.out
   clear HA
   simp only [impl_IsBoard.j0] at H
   by_cases c14 : x28_1 = true
   ·subst c14
    have H1 : (some false) = some r := by rw [if_pos rfl] at H; exact H
    clear H
    have H := H1
    clear H1
    obtain rfl := Option.some.inj H
    go_wp2
    go_ret
    exact ⟨rfE, by exact belS⟩
   ·replace c14 := Bool.eq_false_iff.mpr c14
    subst c14
    have H1 : (impl_IsBoard.l0 kj1 l0_3 (l0_3.length : Int) 0 a0_0 a0_1 a0_2 l0_3) = some r := by rw [if_neg (show ¬ (false = true) by decide)] at H; exact H
    clear H
    have H := H1
    clear H1
    have H' := Am H
    clear H
    obtain ⟨hcz15_0, hcz15_1, hcz15_2, hcz15_3, hfz15_0, hfz15_1, hfz15_2, hfz15_3⟩ := blk4 BKBD.out
    go_wp2
    go_loopg [32] kj1 (fun kq v32 w' => ∃ (x32_2 : Int), v32 = .int .i64 x32_2 ∧ Aside0 (impl_IsBoard.l0 kq l0_3 (l0_3.length : Int) x32_2 a0_0 a0_1 a0_2 l0_3 = some r) ∧ Aside0 (kq ≤ kj1) ∧ Aside0 (w'.heap[gbBD]? = some (.cells #[.int .i64 a0_0, .int .i64 a0_1, .int .i64 a0_2, (.slice A0_3 l0_3.length c0_3)] 24 (0, 0))) ∧ Aside0 (Below w.heap.size w w'))
    case atStart => exact ⟨(0), rfS, H', ⟨Nat.le_refl _⟩, ⟨by first | exact blk_up BKBD.out | exact BKBD.out⟩, ⟨by exact belS⟩⟩
    case round =>
     clear H'
     try clear c14
     try clear hcz15_0 hcz15_1 hcz15_2 hcz15_3
     try clear hfz15_0 hfz15_1 hfz15_2 hfz15_3
     obtain ⟨x32_2, rfl, HA, HK2, BKBD, HB⟩ := hrel
     cases gk with
     | zero => exact absurd HA.out (by simp [impl_IsBoard.l0])
     | succ k2 =>
      have H := HA.out
      clear HA
      simp only [impl_IsBoard.l0] at H
      by_cases c16 : x32_2 < (l0_3.length : Int)
      ·rw [if_pos c16] at H
       have c16b0 : decide (x32_2 < (l0_3.length : Int)) = true := decide_eq_true c16
       clear c16
       by_cases c17 : 0 ≤ x32_2
       ·rw [if_pos c17] at H
        have c17b0 : decide (0 ≤ x32_2) = true := decide_eq_true c17
        clear c17
        by_cases c18 : x32_2 < (l0_3.length : Int)
        ·rw [if_pos c18] at H
         have c18b0 : decide (x32_2 < (l0_3.length : Int)) = true := decide_eq_true c18
         clear c18
         have HC19 := Am H
         clear H
         have pBH : 0 ≤ (x32_2 : Int) := ofd
         have qBH : x32_2 < (l0_3.length : Int) := ofd
         obtain ⟨adBH, eBH, hxBH_0, hxBH_1⟩ := at_T61 HR0_3.out x32_2 pBH qBH
         cases eBH
         first | (replace hxBH_0 := (HB.out.cell (World.block_lt_of_cell? w _ hxBH_0)).trans hxBH_0) | skip
         first | (replace hxBH_1 := (HB.out.cell (World.block_lt_of_cell? w _ hxBH_1)).trans hxBH_1) | skip
         replace pBH := eq_true pBH
         replace qBH := eq_true qBH
         go_upto_region 6 with (first | ((with_reducible refine gate_dst (N := 4) rfl ?_); (try (refine gate_guard (by rfl) ?_; dsimp only)); refine box_event (by rfl) (N := 4) (by rfl) (cs := #[.int .i64 0, .int .i64 0]) (t := 61) hrS ?_; intro gbBI hg w20 hbox hb; have n0_ := Am (blk_below (blk_up BKBD.out) hb); have n1_ := Am (below_step belS hb); have n2_ := Am (hbox); have n3_ := Am (geS hg : w.heap.size ≤ gbBI); have n4_ := n3_; have n5_ := Am ((by rw [hg]; exact Nat.ne_of_lt (blk_lt (blk_up BKBD.out)) : gbBD ≠ gbBI)); have n6_ := Am ((by rw [hg]; exact Nat.ne_of_gt (blk_lt (blk_up BKBD.out)) : gbBI ≠ gbBD)); clear BKBD HB; revert n0_ n1_ n2_ n3_ n4_ n5_ n6_; intro BKBD HB BKBI GWBI GEBI NBBD_BI NBBI_BD; clear hb hbox hg; have hnb21 := NBBI_BD.out; have hnc21 := NBBD_BI.out; obtain ⟨hcz22_0, hcz22_1, hfz22_0, hfz22_1⟩ := blk2 BKBI.out))
         (try simp only [Act.put, sA_, sB_, sC_])
         go_cut [67] (fun v67 wc => ∃ (kq : Nat) (x67_18 : Bool), v67 = .bool x67_18 ∧ Aside0 (impl_IsBoard.j2 kq l0_3 (l0_3.length : Int) x32_2 x67_18 a0_0 a0_1 a0_2 l0_3 ((rd_T61 l0_3 x32_2).f0) ((rd_T61 l0_3 x32_2).f1) = some r) ∧ Aside0 (kq ≤ k2) ∧ Aside0 (wc.heap[gbBD]? = some (.cells #[.int .i64 a0_0, .int .i64 a0_1, .int .i64 a0_2, (.slice (some adBH) l0_3.length c0_3)] 24 (0, 0))) ∧ Aside0 (wc.heap[gbBI]? = some (.cells #[.int .i64 ((rd_T61 l0_3 x32_2).f0), .int .i64 ((rd_T61 l0_3 x32_2).f1)] 61 (0, 0))) ∧ Aside0 (Below w.heap.size w wc))
         case first =>
          have H := HC19.out
          clear HC19
          replace H := Option.bind_eq_some_iff.mp H
          obtain ⟨tBJ, A230, H⟩ := H
          replace H : (if tBJ = true then ((impl_within.f ((rd_T61 l0_3 x32_2).f1) 0 a0_0).bind fun tBK => (if tBK = true then (if x32_2 > 0 then (if 0 ≤ (wrap64 (x32_2 - 1)) then (if (wrap64 (x32_2 - 1)) < (l0_3.length : Int) then (impl_IsBoard.j2 k2 l0_3 (l0_3.length : Int) x32_2 (decide (((rd_T61 l0_3 (wrap64 (x32_2 - 1))).f0) ≥ ((rd_T61 l0_3 x32_2).f0))) a0_0 a0_1 a0_2 l0_3 ((rd_T61 l0_3 x32_2).f0) ((rd_T61 l0_3 x32_2).f1)) else (none)) else (none)) else (impl_IsBoard.j2 k2 l0_3 (l0_3.length : Int) x32_2 false a0_0 a0_1 a0_2 l0_3 ((rd_T61 l0_3 x32_2).f0) ((rd_T61 l0_3 x32_2).f1))) else (impl_IsBoard.j2 k2 l0_3 (l0_3.length : Int) x32_2 true a0_0 a0_1 a0_2 l0_3 ((rd_T61 l0_3 x32_2).f0) ((rd_T61 l0_3 x32_2).f1)))) else (impl_IsBoard.j2 k2 l0_3 (l0_3.length : Int) x32_2 true a0_0 a0_1 a0_2 l0_3 ((rd_T61 l0_3 x32_2).f0) ((rd_T61 l0_3 x32_2).f1))) = some r := H
          have A23 := Am A230
          clear A230
          by_cases c24 : tBJ = true
          ·subst c24
           have H1 : ((impl_within.f ((rd_T61 l0_3 x32_2).f1) 0 a0_0).bind fun tBK => (if tBK = true then (if x32_2 > 0 then (if 0 ≤ (wrap64 (x32_2 - 1)) then (if (wrap64 (x32_2 - 1)) < (l0_3.length : Int) then (impl_IsBoard.j2 k2 l0_3 (l0_3.length : Int) x32_2 (decide (((rd_T61 l0_3 (wrap64 (x32_2 - 1))).f0) ≥ ((rd_T61 l0_3 x32_2).f0))) a0_0 a0_1 a0_2 l0_3 ((rd_T61 l0_3 x32_2).f0) ((rd_T61 l0_3 x32_2).f1)) else (none)) else (none)) else (impl_IsBoard.j2 k2 l0_3 (l0_3.length : Int) x32_2 false a0_0 a0_1 a0_2 l0_3 ((rd_T61 l0_3 x32_2).f0) ((rd_T61 l0_3 x32_2).f1))) else (impl_IsBoard.j2 k2 l0_3 (l0_3.length : Int) x32_2 true a0_0 a0_1 a0_2 l0_3 ((rd_T61 l0_3 x32_2).f0) ((rd_T61 l0_3 x32_2).f1)))) = some r := by rw [if_pos rfl] at H; exact H
           clear H
           have H := H1
           clear H1
           replace H := Option.bind_eq_some_iff.mp H
           obtain ⟨tBK, A250, H⟩ := H
           replace H : (if tBK = true then (if x32_2 > 0 then (if 0 ≤ (wrap64 (x32_2 - 1)) then (if (wrap64 (x32_2 - 1)) < (l0_3.length : Int) then (impl_IsBoard.j2 k2 l0_3 (l0_3.length : Int) x32_2 (decide (((rd_T61 l0_3 (wrap64 (x32_2 - 1))).f0) ≥ ((rd_T61 l0_3 x32_2).f0))) a0_0 a0_1 a0_2 l0_3 ((rd_T61 l0_3 x32_2).f0) ((rd_T61 l0_3 x32_2).f1)) else (none)) else (none)) else (impl_IsBoard.j2 k2 l0_3 (l0_3.length : Int) x32_2 false a0_0 a0_1 a0_2 l0_3 ((rd_T61 l0_3 x32_2).f0) ((rd_T61 l0_3 x32_2).f1))) else (impl_IsBoard.j2 k2 l0_3 (l0_3.length : Int) x32_2 true a0_0 a0_1 a0_2 l0_3 ((rd_T61 l0_3 x32_2).f0) ((rd_T61 l0_3 x32_2).f1))) = some r := H
           have A25 := Am A250
           clear A250
           by_cases c26 : tBK = true
           ·subst c26
            have H1 : (if x32_2 > 0 then (if 0 ≤ (wrap64 (x32_2 - 1)) then (if (wrap64 (x32_2 - 1)) < (l0_3.length : Int) then (impl_IsBoard.j2 k2 l0_3 (l0_3.length : Int) x32_2 (decide (((rd_T61 l0_3 (wrap64 (x32_2 - 1))).f0) ≥ ((rd_T61 l0_3 x32_2).f0))) a0_0 a0_1 a0_2 l0_3 ((rd_T61 l0_3 x32_2).f0) ((rd_T61 l0_3 x32_2).f1)) else (none)) else (none)) else (impl_IsBoard.j2 k2 l0_3 (l0_3.length : Int) x32_2 false a0_0 a0_1 a0_2 l0_3 ((rd_T61 l0_3 x32_2).f0) ((rd_T61 l0_3 x32_2).f1))) = some r := by rw [if_pos rfl] at H; exact H
            clear H
            have H := H1
            clear H1
            by_cases c27 : x32_2 > 0
            ·rw [if_pos c27] at H
             have c27b0 : decide (0 < x32_2) = true := decide_eq_true c27
             clear c27
             (first | rw [c27b0] | (simp only [i64_w, i32_w]; rw [c27b0]) | skip)
             obtain ⟨ji28, hji28⟩ : ∃ j_ : Int, (wrap64 (x32_2 - 1)) = j_ := ⟨_, rfl⟩
             replace H : (if 0 ≤ (ji28) then (if (ji28) < (l0_3.length : Int) then (impl_IsBoard.j2 k2 l0_3 (l0_3.length : Int) x32_2 (decide (((rd_T61 l0_3 (ji28)).f0) ≥ ((rd_T61 l0_3 x32_2).f0))) a0_0 a0_1 a0_2 l0_3 ((rd_T61 l0_3 x32_2).f0) ((rd_T61 l0_3 x32_2).f1)) else (none)) else (none)) = some r := by first | (rw [hji28] at H; exact H) | (simp only [hji28] at H ⊢; exact H)
             (try rw [hji28] at A23)
             (try rw [hji28] at A25)
             have hji28w : (IntKind.i64.wrap (x32_2 - 1)) = ji28 := (i64_w _).trans hji28
             by_cases c29 : 0 ≤ (ji28)
             ·rw [if_pos c29] at H
              have c29b0 : decide (0 ≤ (ji28)) = true := decide_eq_true c29
              clear c29
              by_cases c30 : (ji28) < (l0_3.length : Int)
              ·rw [if_pos c30] at H
               have c30b0 : decide ((ji28) < (l0_3.length : Int)) = true := decide_eq_true c30
               clear c30
               have H' := Am H
               clear H
               try go_wp2
               have n0_ : Aside0 (((w20.setCell ⟨gbBI, 0, none⟩ (.int .i64 ((rd_T61 l0_3 x32_2).f0))).setCell ⟨gbBI, 1, none⟩ (.int .i64 ((rd_T61 l0_3 x32_2).f1))).heap[gbBD]? = some (.cells #[.int .i64 a0_0, .int .i64 a0_1, .int .i64 a0_2, .slice (some adBH) l0_3.length c0_3] 24 (0, 0))) := ⟨by (with_reducible repeat (first | refine blk_drewN ?_ _ | refine blk_drew ?_ | refine blk_alloc ?_ _)); refine blk_farU ?_ NBBD_BI.out _; refine blk_farU ?_ NBBD_BI.out _; exact BKBD.out⟩
               have n1_ : Aside0 (((w20.setCell ⟨gbBI, 0, none⟩ (.int .i64 ((rd_T61 l0_3 x32_2).f0))).setCell ⟨gbBI, 1, none⟩ (.int .i64 ((rd_T61 l0_3 x32_2).f1))).heap[gbBI]? = some (.cells #[.int .i64 ((rd_T61 l0_3 x32_2).f0), .int .i64 ((rd_T61 l0_3 x32_2).f1)] 61 (0, 0))) := ⟨by (with_reducible repeat (first | refine blk_drewN ?_ _ | refine blk_drew ?_ | refine blk_alloc ?_ _)); refine blk_put (cs := #[.int .i64 ((rd_T61 l0_3 x32_2).f0), .int .i64 0]) ?_ 1 _ rfl; refine blk_putU (cs := #[.int .i64 0, .int .i64 0]) ?_ 0 _ rfl; exact BKBI.out⟩
               have n2_ : Aside0 (Below w.heap.size w ((w20.setCell ⟨gbBI, 0, none⟩ (.int .i64 ((rd_T61 l0_3 x32_2).f0))).setCell ⟨gbBI, 1, none⟩ (.int .i64 ((rd_T61 l0_3 x32_2).f1)))) := ⟨by exact belS⟩
               (try clear BKBD)
               (try clear BKBI)
               (try clear HB)
               generalize ((w20.setCell ⟨gbBI, 0, none⟩ (.int .i64 ((rd_T61 l0_3 x32_2).f0))).setCell ⟨gbBI, 1, none⟩ (.int .i64 ((rd_T61 l0_3 x32_2).f1))) = w31 at n0_ n1_ n2_ ⊢
               have BKBD := n0_
               have BKBI := n1_
               have HB := n2_
               clear n0_ n1_ n2_
               have n0_ := Am (blk_drew BKBD.out)
               have n1_ := Am (blk_drew BKBI.out)
               have n2_ := Am (below_drew1 HB.out)
               clear BKBD
               clear BKBI
               clear HB
               have BKBD := n0_
               have BKBI := n1_
               have HB := n2_
               clear n0_ n1_ n2_
               have pBL : 0 ≤ ((ji28) : Int) := ofd
               have qBL : (ji28) < (l0_3.length : Int) := ofd
               obtain ⟨adBL, eBL, hxBL_0, hxBL_1⟩ := at_T61 HR0_3.out (ji28) pBL qBL
               have hwBL_1 := hxBL_1
               have hwBL_0 := hxBL_0
               obtain rfl : adBH = adBL := (by injection eBL)
               first | (replace hxBL_0 := (HB.out.cell (World.block_lt_of_cell? w _ hxBL_0)).trans hxBL_0) | skip
               first | (replace hxBL_1 := (HB.out.cell (World.block_lt_of_cell? w _ hxBL_1)).trans hxBL_1) | skip
               replace pBL := eq_true pBL
               replace qBL := eq_true qBL
               refine start_ (n := 31) (S := fun w' => w'.cell? ⟨gbBI, 0, none⟩ = some (.int .i64 ((rd_T61 l0_3 x32_2).f0)) ∧ w'.cell? ⟨gbBI, 1, none⟩ = some (.int .i64 ((rd_T61 l0_3 x32_2).f1)) ∧ w'.cell? ⟨gbBD, 0, none⟩ = some (.int .i64 a0_0) ∧ w'.cell? ⟨gbBD, 1, none⟩ = some (.int .i64 a0_1) ∧ w'.cell? ⟨gbBD, 2, none⟩ = some (.int .i64 a0_2) ∧ w'.cell? ⟨gbBD, 3, none⟩ = some (.slice (some adBH) l0_3.length c0_3) ∧ w'.cell? (adBH.add (((ji28)).toNat * 2)) = some (.int .i64 ((rd_T61 l0_3 (ji28)).f0)) ∧ w'.cell? ⟨(adBH.add (((ji28)).toNat * 2)).block, (adBH.add (((ji28)).toNat * 2)).off + 1, none⟩ = some (.int .i64 ((rd_T61 l0_3 (ji28)).f1))) (ds := []) bImplIsBoard_0 (by kernel_rfl) rfl rfl ⟨(blk_cell BKBI.out 0).trans rfl, (blk_cell BKBI.out 1).trans rfl, (blk_cell BKBD.out 0).trans rfl, (blk_cell BKBD.out 1).trans rfl, (blk_cell BKBD.out 2).trans rfl, (blk_cell BKBD.out 3).trans rfl, ((HB.out.cell (World.block_lt_of_cell? w _ hwBL_0)).trans hwBL_0), ((HB.out.cell (World.block_lt_of_cell? w _ hwBL_1)).trans hwBL_1)⟩ (fun hHeld => ?_); refine with_tabW impl_IsBoard.tab6 impl_IsBoard.bits6 (fun HT_ HW_ => ?_)
               generalize w31.drew = w32 at BKBD BKBI HB hxBL_0 hxBL_1 hHeld ⊢
               refine puS 0 37 ?_
               refine puS 2 39 ?_
               refine tkS 1 38 ?_
               refine tkS 3 40 ?_
               refine puS 4 41 ?_
               refine one_ (i := 5) (N := some 42) bImplIsBoard_6 rfl rfl (one_of HT_.out (by kernel_rfl)) (by decide) (fun K hK => ?_)
               refine goes_ Tryd.func50 (by kernel_rfl) rfl #[.int .i64 ((rd_T61 l0_3 x32_2).f0), .int .i64 1, .int .i64 (wrap64 (a0_0 - 1))] (by rfl) rfl rfl argS ?_
               with_reducible refine (impl_within.calls ((rd_T61 l0_3 x32_2).f0) 1 (wrap64 (a0_0 - 1)) true _ A23.out).mono ?_
               rintro e w' ⟨rfl, ⟨nd, rfl⟩⟩
               refine ⟨_, rfl, ?_⟩
               refine hK.out _ _ ⟨(blk_cell BKBI.out 0).trans rfl, (blk_cell BKBI.out 1).trans rfl, (blk_cell BKBD.out 0).trans rfl, (blk_cell BKBD.out 1).trans rfl, (blk_cell BKBD.out 2).trans rfl, (blk_cell BKBD.out 3).trans rfl, ((HB.out.cell (World.block_lt_of_cell? w _ hwBL_0)).trans hwBL_0), ((HB.out.cell (World.block_lt_of_cell? w _ hwBL_1)).trans hwBL_1)⟩ (fun hHeld => ?_)
               clear hK K
               refine norm_ (a' := ?_) ?_ ?_
               rotate_left
               ·show Act.put _ (some 42) _ = _
                simp only [Act.put, sA_, sB_, sC_, i64_w, i32_w]
                rfl
               refine puS 6 43 ?_
               refine puS 7 44 ?_
               refine puS 8 45 ?_
               refine puS 10 47 ?_
               refine tkS 9 46 ?_
               refine tkS 11 48 ?_
               refine one_ (i := 12) (N := some 49) bImplIsBoard_13 rfl rfl (one_of HT_.out (by kernel_rfl)) (by decide) (fun K hK => ?_)
               refine goes_ Tryd.func50 (by kernel_rfl) rfl #[.int .i64 ((rd_T61 l0_3 x32_2).f1), .int .i64 0, .int .i64 a0_0] (by rfl) rfl rfl argS ?_
               with_reducible refine (impl_within.calls ((rd_T61 l0_3 x32_2).f1) 0 a0_0 true _ A25.out).mono ?_
               rintro e w' ⟨rfl, ⟨nd, rfl⟩⟩
               refine ⟨_, rfl, ?_⟩
               refine hK.out _ _ ⟨(blk_cell BKBI.out 0).trans rfl, (blk_cell BKBI.out 1).trans rfl, (blk_cell BKBD.out 0).trans rfl, (blk_cell BKBD.out 1).trans rfl, (blk_cell BKBD.out 2).trans rfl, (blk_cell BKBD.out 3).trans rfl, ((HB.out.cell (World.block_lt_of_cell? w _ hwBL_0)).trans hwBL_0), ((HB.out.cell (World.block_lt_of_cell? w _ hwBL_1)).trans hwBL_1)⟩ (fun hHeld => ?_)
               clear hK K
               refine norm_ (a' := ?_) ?_ ?_
               rotate_left
               ·show Act.put _ (some 49) _ = _
                simp only [Act.put, sA_, sB_, sC_, i64_w, i32_w]
                rfl
               refine puS 13 50 ?_
               refine puS 14 51 ?_
               refine puS 15 52 ?_
               refine puS 16 53 ?_
               refine puS 17 54 ?_
               refine puS 18 55 ?_
               refine puS 19 56 ?_
               refine puS 21 58 ?_
               refine puS 22 59 ?_
               refine puS 26 63 ?_
               refine tkS 20 57 ?_
               refine puS 23 60 ?_
               refine puS 24 61 ?_
               refine tkS 25 62 ?_
               refine tkS 27 64 ?_
               refine puS 28 65 ?_
               refine puS 29 66 ?_
               refine puS 30 67 ?_
               refine done_ (done_of HT_.out (by kernel_rfl)) ?_
               try go_wp2
               go_meet
               case rel => exact ⟨_, (decide (((rd_T61 l0_3 (ji28)).f0) ≥ ((rd_T61 l0_3 x32_2).f0))), (by first | rfl | (simp; done) | (simp only [← hji28] <;> (first | rfl | simp)) | (simp [*]; done)), H', ⟨by have := HJ1.out; have := HK2.out; first | omega | exact Nat.le_refl _⟩, ⟨by first | exact blk_up BKBD.out | exact BKBD.out⟩, ⟨by first | exact blk_up BKBI.out | exact BKBI.out⟩, ⟨by exact belS⟩⟩
              ·rw [if_neg c30] at H
               exact absurd H (by simp)
             ·rw [if_neg c29] at H
              exact absurd H (by simp)
            ·rw [if_neg c27] at H
             have c27b0 : decide (0 < x32_2) = false := decide_eq_false c27
             clear c27
             (first | rw [c27b0] | (simp only [i64_w, i32_w]; rw [c27b0]) | skip)
             have H' := Am H
             clear H
             try go_wp2
             have n0_ : Aside0 (((w20.setCell ⟨gbBI, 0, none⟩ (.int .i64 ((rd_T61 l0_3 x32_2).f0))).setCell ⟨gbBI, 1, none⟩ (.int .i64 ((rd_T61 l0_3 x32_2).f1))).heap[gbBD]? = some (.cells #[.int .i64 a0_0, .int .i64 a0_1, .int .i64 a0_2, .slice (some adBH) l0_3.length c0_3] 24 (0, 0))) := ⟨by (with_reducible repeat (first | refine blk_drewN ?_ _ | refine blk_drew ?_ | refine blk_alloc ?_ _)); refine blk_farU ?_ NBBD_BI.out _; refine blk_farU ?_ NBBD_BI.out _; exact BKBD.out⟩
             have n1_ : Aside0 (((w20.setCell ⟨gbBI, 0, none⟩ (.int .i64 ((rd_T61 l0_3 x32_2).f0))).setCell ⟨gbBI, 1, none⟩ (.int .i64 ((rd_T61 l0_3 x32_2).f1))).heap[gbBI]? = some (.cells #[.int .i64 ((rd_T61 l0_3 x32_2).f0), .int .i64 ((rd_T61 l0_3 x32_2).f1)] 61 (0, 0))) := ⟨by (with_reducible repeat (first | refine blk_drewN ?_ _ | refine blk_drew ?_ | refine blk_alloc ?_ _)); refine blk_put (cs := #[.int .i64 ((rd_T61 l0_3 x32_2).f0), .int .i64 0]) ?_ 1 _ rfl; refine blk_putU (cs := #[.int .i64 0, .int .i64 0]) ?_ 0 _ rfl; exact BKBI.out⟩
             have n2_ : Aside0 (Below w.heap.size w ((w20.setCell ⟨gbBI, 0, none⟩ (.int .i64 ((rd_T61 l0_3 x32_2).f0))).setCell ⟨gbBI, 1, none⟩ (.int .i64 ((rd_T61 l0_3 x32_2).f1)))) := ⟨by exact belS⟩
             (try clear BKBD)
             (try clear BKBI)
             (try clear HB)
             generalize ((w20.setCell ⟨gbBI, 0, none⟩ (.int .i64 ((rd_T61 l0_3 x32_2).f0))).setCell ⟨gbBI, 1, none⟩ (.int .i64 ((rd_T61 l0_3 x32_2).f1))) = w33 at n0_ n1_ n2_ ⊢
             have BKBD := n0_
             have BKBI := n1_
             have HB := n2_
             clear n0_ n1_ n2_
             have n0_ := Am (blk_drew BKBD.out)
             have n1_ := Am (blk_drew BKBI.out)
             have n2_ := Am (below_drew1 HB.out)
             clear BKBD
             clear BKBI
             clear HB
             have BKBD := n0_
             have BKBI := n1_
             have HB := n2_
             clear n0_ n1_ n2_
             refine start_ (n := 31) (S := fun w' => w'.cell? ⟨gbBI, 0, none⟩ = some (.int .i64 ((rd_T61 l0_3 x32_2).f0)) ∧ w'.cell? ⟨gbBI, 1, none⟩ = some (.int .i64 ((rd_T61 l0_3 x32_2).f1)) ∧ w'.cell? ⟨gbBD, 0, none⟩ = some (.int .i64 a0_0) ∧ w'.cell? ⟨gbBD, 1, none⟩ = some (.int .i64 a0_1) ∧ w'.cell? ⟨gbBD, 2, none⟩ = some (.int .i64 a0_2) ∧ w'.cell? ⟨gbBD, 3, none⟩ = some (.slice (some adBH) l0_3.length c0_3)) (ds := []) bImplIsBoard_0 (by kernel_rfl) rfl rfl ⟨(blk_cell BKBI.out 0).trans rfl, (blk_cell BKBI.out 1).trans rfl, (blk_cell BKBD.out 0).trans rfl, (blk_cell BKBD.out 1).trans rfl, (blk_cell BKBD.out 2).trans rfl, (blk_cell BKBD.out 3).trans rfl⟩ (fun hHeld => ?_); refine with_tabW impl_IsBoard.tab6 impl_IsBoard.bits6 (fun HT_ HW_ => ?_)
             generalize w33.drew = w34 at BKBD BKBI HB hHeld ⊢
             refine puS 0 37 ?_
             refine puS 2 39 ?_
             refine tkS 1 38 ?_
             refine tkS 3 40 ?_
             refine puS 4 41 ?_
             refine one_ (i := 5) (N := some 42) bImplIsBoard_6 rfl rfl (one_of HT_.out (by kernel_rfl)) (by decide) (fun K hK => ?_)
             refine goes_ Tryd.func50 (by kernel_rfl) rfl #[.int .i64 ((rd_T61 l0_3 x32_2).f0), .int .i64 1, .int .i64 (wrap64 (a0_0 - 1))] (by rfl) rfl rfl argS ?_
             with_reducible refine (impl_within.calls ((rd_T61 l0_3 x32_2).f0) 1 (wrap64 (a0_0 - 1)) true _ A23.out).mono ?_
             rintro e w' ⟨rfl, ⟨nd, rfl⟩⟩
             refine ⟨_, rfl, ?_⟩
             refine hK.out _ _ ⟨(blk_cell BKBI.out 0).trans rfl, (blk_cell BKBI.out 1).trans rfl, (blk_cell BKBD.out 0).trans rfl, (blk_cell BKBD.out 1).trans rfl, (blk_cell BKBD.out 2).trans rfl, (blk_cell BKBD.out 3).trans rfl⟩ (fun hHeld => ?_)
             clear hK K
             refine norm_ (a' := ?_) ?_ ?_
             rotate_left
             ·show Act.put _ (some 42) _ = _
              simp only [Act.put, sA_, sB_, sC_, i64_w, i32_w]
              rfl
             refine puS 6 43 ?_
             refine puS 7 44 ?_
             refine puS 8 45 ?_
             refine puS 10 47 ?_
             refine tkS 9 46 ?_
             refine tkS 11 48 ?_
             refine one_ (i := 12) (N := some 49) bImplIsBoard_13 rfl rfl (one_of HT_.out (by kernel_rfl)) (by decide) (fun K hK => ?_)
             refine goes_ Tryd.func50 (by kernel_rfl) rfl #[.int .i64 ((rd_T61 l0_3 x32_2).f1), .int .i64 0, .int .i64 a0_0] (by rfl) rfl rfl argS ?_
             with_reducible refine (impl_within.calls ((rd_T61 l0_3 x32_2).f1) 0 a0_0 true _ A25.out).mono ?_
             rintro e w' ⟨rfl, ⟨nd, rfl⟩⟩
             refine ⟨_, rfl, ?_⟩
             refine hK.out _ _ ⟨(blk_cell BKBI.out 0).trans rfl, (blk_cell BKBI.out 1).trans rfl, (blk_cell BKBD.out 0).trans rfl, (blk_cell BKBD.out 1).trans rfl, (blk_cell BKBD.out 2).trans rfl, (blk_cell BKBD.out 3).trans rfl⟩ (fun hHeld => ?_)
             clear hK K
             refine norm_ (a' := ?_) ?_ ?_
             rotate_left
             ·show Act.put _ (some 49) _ = _
              simp only [Act.put, sA_, sB_, sC_, i64_w, i32_w]
              rfl
             refine puS 13 50 ?_
             refine puS 14 51 ?_
             refine puS 15 52 ?_
             refine puS 16 53 ?_
             refine puS 17 54 ?_
             refine puS 18 55 ?_
             refine puN 19 56 ?_
             refine puN 20 57 ?_
             refine puN 21 58 ?_
             refine puN 22 59 ?_
             refine puN 23 60 ?_
             refine puN 24 61 ?_
             refine puN 25 62 ?_
             refine puN 26 63 ?_
             refine puN 27 64 ?_
             refine puN 28 65 ?_
             refine puS 29 66 ?_
             refine puS 30 67 ?_
             refine done_ (done_of HT_.out (by kernel_rfl)) ?_
             try go_wp2
             go_meet
             case rel => exact ⟨_, (false), rfS, H', ⟨by have := HJ1.out; have := HK2.out; first | omega | exact Nat.le_refl _⟩, ⟨by first | exact blk_up BKBD.out | exact BKBD.out⟩, ⟨by first | exact blk_up BKBI.out | exact BKBI.out⟩, ⟨by exact belS⟩⟩
           ·replace c26 := Bool.eq_false_iff.mpr c26
            subst c26
            have H1 : (impl_IsBoard.j2 k2 l0_3 (l0_3.length : Int) x32_2 true a0_0 a0_1 a0_2 l0_3 ((rd_T61 l0_3 x32_2).f0) ((rd_T61 l0_3 x32_2).f1)) = some r := by rw [if_neg (show ¬ (false = true) by decide)] at H; exact H
            clear H
            have H := H1
            clear H1
            have H' := Am H
            clear H
            try go_wp2
            have n0_ : Aside0 (((w20.setCell ⟨gbBI, 0, none⟩ (.int .i64 ((rd_T61 l0_3 x32_2).f0))).setCell ⟨gbBI, 1, none⟩ (.int .i64 ((rd_T61 l0_3 x32_2).f1))).heap[gbBD]? = some (.cells #[.int .i64 a0_0, .int .i64 a0_1, .int .i64 a0_2, .slice (some adBH) l0_3.length c0_3] 24 (0, 0))) := ⟨by (with_reducible repeat (first | refine blk_drewN ?_ _ | refine blk_drew ?_ | refine blk_alloc ?_ _)); refine blk_farU ?_ NBBD_BI.out _; refine blk_farU ?_ NBBD_BI.out _; exact BKBD.out⟩
            have n1_ : Aside0 (((w20.setCell ⟨gbBI, 0, none⟩ (.int .i64 ((rd_T61 l0_3 x32_2).f0))).setCell ⟨gbBI, 1, none⟩ (.int .i64 ((rd_T61 l0_3 x32_2).f1))).heap[gbBI]? = some (.cells #[.int .i64 ((rd_T61 l0_3 x32_2).f0), .int .i64 ((rd_T61 l0_3 x32_2).f1)] 61 (0, 0))) := ⟨by (with_reducible repeat (first | refine blk_drewN ?_ _ | refine blk_drew ?_ | refine blk_alloc ?_ _)); refine blk_put (cs := #[.int .i64 ((rd_T61 l0_3 x32_2).f0), .int .i64 0]) ?_ 1 _ rfl; refine blk_putU (cs := #[.int .i64 0, .int .i64 0]) ?_ 0 _ rfl; exact BKBI.out⟩
            have n2_ : Aside0 (Below w.heap.size w ((w20.setCell ⟨gbBI, 0, none⟩ (.int .i64 ((rd_T61 l0_3 x32_2).f0))).setCell ⟨gbBI, 1, none⟩ (.int .i64 ((rd_T61 l0_3 x32_2).f1)))) := ⟨by exact belS⟩
            (try clear BKBD)
            (try clear BKBI)
            (try clear HB)
            generalize ((w20.setCell ⟨gbBI, 0, none⟩ (.int .i64 ((rd_T61 l0_3 x32_2).f0))).setCell ⟨gbBI, 1, none⟩ (.int .i64 ((rd_T61 l0_3 x32_2).f1))) = w35 at n0_ n1_ n2_ ⊢
            have BKBD := n0_
            have BKBI := n1_
            have HB := n2_
            clear n0_ n1_ n2_
            have n0_ := Am (blk_drew BKBD.out)
            have n1_ := Am (blk_drew BKBI.out)
            have n2_ := Am (below_drew1 HB.out)
            clear BKBD
            clear BKBI
            clear HB
            have BKBD := n0_
            have BKBI := n1_
            have HB := n2_
            clear n0_ n1_ n2_
            refine start_ (n := 31) (S := fun w' => w'.cell? ⟨gbBI, 0, none⟩ = some (.int .i64 ((rd_T61 l0_3 x32_2).f0)) ∧ w'.cell? ⟨gbBI, 1, none⟩ = some (.int .i64 ((rd_T61 l0_3 x32_2).f1)) ∧ w'.cell? ⟨gbBD, 0, none⟩ = some (.int .i64 a0_0) ∧ w'.cell? ⟨gbBD, 1, none⟩ = some (.int .i64 a0_1) ∧ w'.cell? ⟨gbBD, 2, none⟩ = some (.int .i64 a0_2) ∧ w'.cell? ⟨gbBD, 3, none⟩ = some (.slice (some adBH) l0_3.length c0_3)) (ds := []) bImplIsBoard_0 (by kernel_rfl) rfl rfl ⟨(blk_cell BKBI.out 0).trans rfl, (blk_cell BKBI.out 1).trans rfl, (blk_cell BKBD.out 0).trans rfl, (blk_cell BKBD.out 1).trans rfl, (blk_cell BKBD.out 2).trans rfl, (blk_cell BKBD.out 3).trans rfl⟩ (fun hHeld => ?_); refine with_tabW impl_IsBoard.tab6 impl_IsBoard.bits6 (fun HT_ HW_ => ?_)
            generalize w35.drew = w36 at BKBD BKBI HB hHeld ⊢
            refine puS 0 37 ?_
            refine puS 2 39 ?_
            refine tkS 1 38 ?_
            refine tkS 3 40 ?_
            refine puS 4 41 ?_
            refine one_ (i := 5) (N := some 42) bImplIsBoard_6 rfl rfl (one_of HT_.out (by kernel_rfl)) (by decide) (fun K hK => ?_)
            refine goes_ Tryd.func50 (by kernel_rfl) rfl #[.int .i64 ((rd_T61 l0_3 x32_2).f0), .int .i64 1, .int .i64 (wrap64 (a0_0 - 1))] (by rfl) rfl rfl argS ?_
            with_reducible refine (impl_within.calls ((rd_T61 l0_3 x32_2).f0) 1 (wrap64 (a0_0 - 1)) true _ A23.out).mono ?_
            rintro e w' ⟨rfl, ⟨nd, rfl⟩⟩
            refine ⟨_, rfl, ?_⟩
            refine hK.out _ _ ⟨(blk_cell BKBI.out 0).trans rfl, (blk_cell BKBI.out 1).trans rfl, (blk_cell BKBD.out 0).trans rfl, (blk_cell BKBD.out 1).trans rfl, (blk_cell BKBD.out 2).trans rfl, (blk_cell BKBD.out 3).trans rfl⟩ (fun hHeld => ?_)
            clear hK K
            refine norm_ (a' := ?_) ?_ ?_
            rotate_left
            ·show Act.put _ (some 42) _ = _
             simp only [Act.put, sA_, sB_, sC_, i64_w, i32_w]
             rfl
            refine puS 6 43 ?_
            refine puS 7 44 ?_
            refine puS 8 45 ?_
            refine puS 10 47 ?_
            refine tkS 9 46 ?_
            refine tkS 11 48 ?_
            refine one_ (i := 12) (N := some 49) bImplIsBoard_13 rfl rfl (one_of HT_.out (by kernel_rfl)) (by decide) (fun K hK => ?_)
            refine goes_ Tryd.func50 (by kernel_rfl) rfl #[.int .i64 ((rd_T61 l0_3 x32_2).f1), .int .i64 0, .int .i64 a0_0] (by rfl) rfl rfl argS ?_
            with_reducible refine (impl_within.calls ((rd_T61 l0_3 x32_2).f1) 0 a0_0 false _ A25.out).mono ?_
            rintro e w' ⟨rfl, ⟨nd, rfl⟩⟩
            refine ⟨_, rfl, ?_⟩
            refine hK.out _ _ ⟨(blk_cell BKBI.out 0).trans rfl, (blk_cell BKBI.out 1).trans rfl, (blk_cell BKBD.out 0).trans rfl, (blk_cell BKBD.out 1).trans rfl, (blk_cell BKBD.out 2).trans rfl, (blk_cell BKBD.out 3).trans rfl⟩ (fun hHeld => ?_)
            clear hK K
            refine norm_ (a' := ?_) ?_ ?_
            rotate_left
            ·show Act.put _ (some 49) _ = _
             simp only [Act.put, sA_, sB_, sC_, i64_w, i32_w]
             rfl
            refine puS 13 50 ?_
            refine puS 14 51 ?_
            refine puS 15 52 ?_
            refine puN 16 53 ?_
            refine puN 17 54 ?_
            refine puN 18 55 ?_
            refine puN 19 56 ?_
            refine puN 20 57 ?_
            refine puN 21 58 ?_
            refine puN 22 59 ?_
            refine puN 23 60 ?_
            refine puN 24 61 ?_
            refine puN 25 62 ?_
            refine puN 26 63 ?_
            refine puN 27 64 ?_
            refine puN 28 65 ?_
            refine puN 29 66 ?_
            refine puS 30 67 ?_
            refine done_ (done_of HT_.out (by kernel_rfl)) ?_
            try go_wp2
            go_meet
            case rel => exact ⟨_, (true), rfS, H', ⟨by have := HJ1.out; have := HK2.out; first | omega | exact Nat.le_refl _⟩, ⟨by first | exact blk_up BKBD.out | exact BKBD.out⟩, ⟨by first | exact blk_up BKBI.out | exact BKBI.out⟩, ⟨by exact belS⟩⟩
          ·replace c24 := Bool.eq_false_iff.mpr c24
           subst c24
           have H1 : (impl_IsBoard.j2 k2 l0_3 (l0_3.length : Int) x32_2 true a0_0 a0_1 a0_2 l0_3 ((rd_T61 l0_3 x32_2).f0) ((rd_T61 l0_3 x32_2).f1)) = some r := by rw [if_neg (show ¬ (false = true) by decide)] at H; exact H
           clear H
           have H := H1
           clear H1
           have H' := Am H
           clear H
           try go_wp2
           have n0_ : Aside0 (((w20.setCell ⟨gbBI, 0, none⟩ (.int .i64 ((rd_T61 l0_3 x32_2).f0))).setCell ⟨gbBI, 1, none⟩ (.int .i64 ((rd_T61 l0_3 x32_2).f1))).heap[gbBD]? = some (.cells #[.int .i64 a0_0, .int .i64 a0_1, .int .i64 a0_2, .slice (some adBH) l0_3.length c0_3] 24 (0, 0))) := ⟨by (with_reducible repeat (first | refine blk_drewN ?_ _ | refine blk_drew ?_ | refine blk_alloc ?_ _)); refine blk_farU ?_ NBBD_BI.out _; refine blk_farU ?_ NBBD_BI.out _; exact BKBD.out⟩
           have n1_ : Aside0 (((w20.setCell ⟨gbBI, 0, none⟩ (.int .i64 ((rd_T61 l0_3 x32_2).f0))).setCell ⟨gbBI, 1, none⟩ (.int .i64 ((rd_T61 l0_3 x32_2).f1))).heap[gbBI]? = some (.cells #[.int .i64 ((rd_T61 l0_3 x32_2).f0), .int .i64 ((rd_T61 l0_3 x32_2).f1)] 61 (0, 0))) := ⟨by (with_reducible repeat (first | refine blk_drewN ?_ _ | refine blk_drew ?_ | refine blk_alloc ?_ _)); refine blk_put (cs := #[.int .i64 ((rd_T61 l0_3 x32_2).f0), .int .i64 0]) ?_ 1 _ rfl; refine blk_putU (cs := #[.int .i64 0, .int .i64 0]) ?_ 0 _ rfl; exact BKBI.out⟩
           have n2_ : Aside0 (Below w.heap.size w ((w20.setCell ⟨gbBI, 0, none⟩ (.int .i64 ((rd_T61 l0_3 x32_2).f0))).setCell ⟨gbBI, 1, none⟩ (.int .i64 ((rd_T61 l0_3 x32_2).f1)))) := ⟨by exact belS⟩
           (try clear BKBD)
           (try clear BKBI)
           (try clear HB)
           generalize ((w20.setCell ⟨gbBI, 0, none⟩ (.int .i64 ((rd_T61 l0_3 x32_2).f0))).setCell ⟨gbBI, 1, none⟩ (.int .i64 ((rd_T61 l0_3 x32_2).f1))) = w37 at n0_ n1_ n2_ ⊢
           have BKBD := n0_
           have BKBI := n1_
           have HB := n2_
           clear n0_ n1_ n2_
           have n0_ := Am (blk_drew BKBD.out)
           have n1_ := Am (blk_drew BKBI.out)
           have n2_ := Am (below_drew1 HB.out)
           clear BKBD
           clear BKBI
           clear HB
           have BKBD := n0_
           have BKBI := n1_
           have HB := n2_
           clear n0_ n1_ n2_
           refine start_ (n := 31) (S := fun w' => w'.cell? ⟨gbBI, 0, none⟩ = some (.int .i64 ((rd_T61 l0_3 x32_2).f0)) ∧ w'.cell? ⟨gbBI, 1, none⟩ = some (.int .i64 ((rd_T61 l0_3 x32_2).f1)) ∧ w'.cell? ⟨gbBD, 0, none⟩ = some (.int .i64 a0_0) ∧ w'.cell? ⟨gbBD, 1, none⟩ = some (.int .i64 a0_1) ∧ w'.cell? ⟨gbBD, 2, none⟩ = some (.int .i64 a0_2) ∧ w'.cell? ⟨gbBD, 3, none⟩ = some (.slice (some adBH) l0_3.length c0_3)) (ds := []) bImplIsBoard_0 (by kernel_rfl) rfl rfl ⟨(blk_cell BKBI.out 0).trans rfl, (blk_cell BKBI.out 1).trans rfl, (blk_cell BKBD.out 0).trans rfl, (blk_cell BKBD.out 1).trans rfl, (blk_cell BKBD.out 2).trans rfl, (blk_cell BKBD.out 3).trans rfl⟩ (fun hHeld => ?_); refine with_tabW impl_IsBoard.tab6 impl_IsBoard.bits6 (fun HT_ HW_ => ?_)
           generalize w37.drew = w38 at BKBD BKBI HB hHeld ⊢
           refine puS 0 37 ?_
           refine puS 2 39 ?_
           refine tkS 1 38 ?_
           refine tkS 3 40 ?_
           refine puS 4 41 ?_
           refine one_ (i := 5) (N := some 42) bImplIsBoard_6 rfl rfl (one_of HT_.out (by kernel_rfl)) (by decide) (fun K hK => ?_)
           refine goes_ Tryd.func50 (by kernel_rfl) rfl #[.int .i64 ((rd_T61 l0_3 x32_2).f0), .int .i64 1, .int .i64 (wrap64 (a0_0 - 1))] (by rfl) rfl rfl argS ?_
           with_reducible refine (impl_within.calls ((rd_T61 l0_3 x32_2).f0) 1 (wrap64 (a0_0 - 1)) false _ A23.out).mono ?_
           rintro e w' ⟨rfl, ⟨nd, rfl⟩⟩
           refine ⟨_, rfl, ?_⟩
           refine hK.out _ _ ⟨(blk_cell BKBI.out 0).trans rfl, (blk_cell BKBI.out 1).trans rfl, (blk_cell BKBD.out 0).trans rfl, (blk_cell BKBD.out 1).trans rfl, (blk_cell BKBD.out 2).trans rfl, (blk_cell BKBD.out 3).trans rfl⟩ (fun hHeld => ?_)
           clear hK K
           refine norm_ (a' := ?_) ?_ ?_
           rotate_left
           ·show Act.put _ (some 42) _ = _
            simp only [Act.put, sA_, sB_, sC_, i64_w, i32_w]
            rfl
           refine puS 6 43 ?_
           refine puS 7 44 ?_
           refine puN 8 45 ?_
           refine puN 9 46 ?_
           refine puN 10 47 ?_
           refine puN 11 48 ?_
           refine puN 12 49 ?_
           refine puN 13 50 ?_
           refine puS 14 51 ?_
           refine puS 15 52 ?_
           refine puN 16 53 ?_
           refine puN 17 54 ?_
           refine puN 18 55 ?_
           refine puN 19 56 ?_
           refine puN 20 57 ?_
           refine puN 21 58 ?_
           refine puN 22 59 ?_
           refine puN 23 60 ?_
           refine puN 24 61 ?_
           refine puN 25 62 ?_
           refine puN 26 63 ?_
           refine puN 27 64 ?_
           refine puN 28 65 ?_
           refine puN 29 66 ?_
           refine puS 30 67 ?_
           refine done_ (done_of HT_.out (by kernel_rfl)) ?_
           try go_wp2
           go_meet
           case rel => exact ⟨_, (true), rfS, H', ⟨by have := HJ1.out; have := HK2.out; first | omega | exact Nat.le_refl _⟩, ⟨by first | exact blk_up BKBD.out | exact BKBD.out⟩, ⟨by first | exact blk_up BKBI.out | exact BKBI.out⟩, ⟨by exact belS⟩⟩
         case rest =>
          clear HC19
          obtain ⟨kq, x67_18, rfl, HA, HJ18, BKBD, BKBI, HB⟩ := hcut
          cases kq with
          | zero => exact absurd HA.out (by simp [impl_IsBoard.j2])
          | succ kj18 =>
           have H := HA.out
           clear HA
           simp only [impl_IsBoard.j2] at H
           by_cases c39 : x67_18 = true
           ·subst c39
            have H1 : (some false) = some r := by rw [if_pos rfl] at H; exact H
            clear H
            have H := H1
            clear H1
            obtain rfl := Option.some.inj H
            go_wp2
            go_ret
            exact ⟨rfE, by exact belS⟩
           ·replace c39 := Bool.eq_false_iff.mpr c39
            subst c39
            have H1 : ((impl_Board_begins.f kj18 a0_0 a0_1 a0_2 l0_3 ((rd_T61 l0_3 x32_2).f1)).bind fun btBM => (if btBM.2 = true then (some false) else (impl_IsBoard.l0 kj18 l0_3 (l0_3.length : Int) (wrap64 (x32_2 + 1)) a0_0 a0_1 a0_2 l0_3))) = some r := by rw [if_neg (show ¬ (false = true) by decide)] at H; exact H
            clear H
            have H := H1
            clear H1
            replace H := Option.bind_eq_some_iff.mp H
            obtain ⟨⟨tBM, tBN⟩, A400, H⟩ := H
            replace H : (if tBN = true then (some false) else (impl_IsBoard.l0 kj18 l0_3 (l0_3.length : Int) (wrap64 (x32_2 + 1)) a0_0 a0_1 a0_2 l0_3)) = some r := H
            have A40 := Am A400
            clear A400
            by_cases c41 : tBN = true
            ·subst c41
             have H1 : (some false) = some r := by rw [if_pos rfl] at H; exact H
             clear H
             have H := H1
             clear H1
             obtain rfl := Option.some.inj H
             have hnb42 := NBBD_BI.out
             have hnc42 := NBBI_BD.out
             obtain ⟨hcz43_0, hcz43_1, hcz43_2, hcz43_3, hfz43_0, hfz43_1, hfz43_2, hfz43_3⟩ := blk4 BKBD.out
             obtain ⟨hcz44_0, hcz44_1, hfz44_0, hfz44_1⟩ := blk2 BKBI.out
             go_wp2_with (first | ((with_reducible refine gate_callee (f := 51) rfl ?_); refine goesL_ (some 72) rfl rfl Tryd.func51 (by kernel_rfl) rfl #[.agg #[.int .i64 a0_0, .int .i64 a0_1, .int .i64 a0_2, .slice (some adBH) l0_3.length c0_3], .int .i64 ((rd_T61 l0_3 x32_2).f1)] rfl argS ?_; (with_reducible refine (impl_Board_begins.calls kj18 a0_0 a0_1 a0_2 _ _ l0_3 ((rd_T61 l0_3 x32_2).f1) tBM true _ ?side1 ?side2 A40.out).mono ?_); (case side1 => exact Kd.C_up (Kd.C_below HR0_3.out HB.out)); (case side2 => exact HC0_3.out); rintro e w45 ⟨rfl, hb⟩; refine ⟨_, rfl, ?_⟩; have n0_ := Am (blk_below (blk_up BKBD.out) hb); have n1_ := Am (blk_below (blk_up BKBI.out) hb); have n2_ := Am (below_step belS hb); clear BKBD BKBI HB; revert n0_ n1_ n2_; intro BKBD BKBI HB; (try clear hb)))
             go_ret
             exact ⟨rfE, by exact belS⟩
            ·replace c41 := Bool.eq_false_iff.mpr c41
             subst c41
             have H1 : (impl_IsBoard.l0 kj18 l0_3 (l0_3.length : Int) (wrap64 (x32_2 + 1)) a0_0 a0_1 a0_2 l0_3) = some r := by rw [if_neg (show ¬ (false = true) by decide)] at H; exact H
             clear H
             have H := H1
             clear H1
             have H' := Am H
             clear H
             have hnb46 := NBBD_BI.out
             have hnc46 := NBBI_BD.out
             obtain ⟨hcz47_0, hcz47_1, hcz47_2, hcz47_3, hfz47_0, hfz47_1, hfz47_2, hfz47_3⟩ := blk4 BKBD.out
             obtain ⟨hcz48_0, hcz48_1, hfz48_0, hfz48_1⟩ := blk2 BKBI.out
             go_wp2_with (first | ((with_reducible refine gate_callee (f := 51) rfl ?_); refine goesL_ (some 72) rfl rfl Tryd.func51 (by kernel_rfl) rfl #[.agg #[.int .i64 a0_0, .int .i64 a0_1, .int .i64 a0_2, .slice (some adBH) l0_3.length c0_3], .int .i64 ((rd_T61 l0_3 x32_2).f1)] rfl argS ?_; (with_reducible refine (impl_Board_begins.calls kj18 a0_0 a0_1 a0_2 _ _ l0_3 ((rd_T61 l0_3 x32_2).f1) tBM false _ ?side1 ?side2 A40.out).mono ?_); (case side1 => exact Kd.C_up (Kd.C_below HR0_3.out HB.out)); (case side2 => exact HC0_3.out); rintro e w49 ⟨rfl, hb⟩; refine ⟨_, rfl, ?_⟩; have n0_ := Am (blk_below (blk_up BKBD.out) hb); have n1_ := Am (blk_below (blk_up BKBI.out) hb); have n2_ := Am (below_step belS hb); clear BKBD BKBI HB; revert n0_ n1_ n2_; intro BKBD BKBI HB; (try clear hb)))
             go_roundg kj18
             case measure => have := HJ1.out; have := HK2.out; have := HJ18.out; omega
             case rel => exact ⟨(wrap64 (x32_2 + 1)), rfS, H', ⟨by have := HJ1.out; have := HK2.out; have := HJ18.out; omega⟩, ⟨by first | exact blk_up BKBD.out | exact BKBD.out⟩, ⟨by exact belS⟩⟩
        ·rw [if_neg c18] at H
         exact absurd H (by simp)
       ·rw [if_neg c17] at H
        exact absurd H (by simp)
      ·rw [if_neg c16] at H
       have c16b0 : decide (x32_2 < (l0_3.length : Int)) = false := decide_eq_false c16
       clear c16
       obtain rfl := Option.some.inj H
       go_wp2
       go_ret
       exact ⟨rfE, by exact belS⟩

end Go.Proofs.YtnbleinhabllnaaDoor.Pr
