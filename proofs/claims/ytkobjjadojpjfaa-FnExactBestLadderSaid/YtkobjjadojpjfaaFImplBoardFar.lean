-- A text of the machine side, written by wip/gen.py of this repo out of the translation. Not trusted: Lean checks it.
import Derived.Test.YtkobjjadojpjfaaF0
import Derived.Test.YtkobjjadojpjfaaFGB
import Derived.Test.YtkobjjadojpjfaaFImplBoardLandings
import Derived.Test.YtkobjjadojpjfaaHRepeat
namespace Go.Proofs.Ytkobjjadojpjfaa.Pr
open Go.RowKit Go.Proofs.YtkobjjadojpjfaaW.PrintWords Go.Proofs.YtkobjjadojpjfaaW.PrintLast Go.Proofs.YtkobjjadojpjfaaW.PrintMore
attribute [local go_sem] max2_int min2_int max_two min_two max_three min_three max_four min_four   -- for this text's walks alone
set_option linter.unusedVariables false
set_option linter.unusedSimpArgs false

/-! ### impl_Board_far: function 130 -/
mutual
def impl_Board_far.l0 : Nat → List Int → Int → Bool → Int → Int → Int → List (S27) → Option (List Int)
 | 0, _, _, _, _, _, _, _ => none
 | k + 1, x3, x4, x5, xBE000, xBE001, xBE002, xBE003 => if x5 = true then (impl_Board_far.l1 k x3 x4 false xBE000 0 xBE000 xBE001 xBE002 xBE003) else (some x3)
def impl_Board_far.l1 : Nat → List Int → Int → Bool → Int → Int → Int → Int → Int → List (S27) → Option (List Int)
 | 0, _, _, _, _, _, _, _, _, _ => none
 | k + 1, x3, x4, x5, x22, x23, xBE000, xBE001, xBE002, xBE003 => if x23 < x22 then (if 0 ≤ x23 then (if x23 < (x3.length : Int) then (if (rd x3 x23) ≥ 0 then (impl_Board_far.j2 k x3 x4 x5 x23 x22 x23 true xBE000 xBE001 xBE002 xBE003) else ((impl_Board_isSquare.f k xBE000 xBE001 xBE002 xBE003 x23).bind fun tBM => (impl_Board_far.j2 k x3 x4 x5 x23 x22 x23 (!tBM) xBE000 xBE001 xBE002 xBE003))) else (none)) else (none)) else (impl_Board_far.l0 k x3 (wrap64 (x4 + 1)) x5 xBE000 xBE001 xBE002 xBE003)
def impl_Board_far.j2 : Nat → List Int → Int → Bool → Int → Int → Int → Bool → Int → Int → Int → List (S27) → Option (List Int)
 | 0, _, _, _, _, _, _, _, _, _, _, _ => none
 | k + 1, x3, x4, x5, x6, x22, x23, x36, xBE000, xBE001, xBE002, xBE003 => if x36 = true then (impl_Board_far.l1 k x3 x4 x5 x22 (wrap64 (x23 + 1)) xBE000 xBE001 xBE002 xBE003) else ((impl_Board_landings.f k xBE000 xBE001 xBE002 xBE003 x6).bind fun tBN => (impl_Board_far.l2 k x3 x4 x5 x6 x22 x23 tBN (tBN.length : Int) 0 xBE000 xBE001 xBE002 xBE003))
def impl_Board_far.l2 : Nat → List Int → Int → Bool → Int → Int → Int → List Int → Int → Int → Int → Int → Int → List (S27) → Option (List Int)
 | 0, _, _, _, _, _, _, _, _, _, _, _, _, _ => none
 | k + 1, x3, x4, x5, x6, x22, x23, x39, x40, x41, xBE000, xBE001, xBE002, xBE003 => if x41 < x40 then (if 0 ≤ x41 then (if x41 < (x39.length : Int) then (if 0 ≤ (rd x39 x41) then (if (rd x39 x41) < (x3.length : Int) then (if (rd x3 (rd x39 x41)) = x4 then (if 0 ≤ x6 then (if x6 < (x3.length : Int) then (impl_Board_far.l2 k (x3.set (x6 : Int).toNat (wrap64 (x4 + 1))) x4 true x6 x22 x23 x39 x40 (wrap64 (x41 + 1)) xBE000 xBE001 xBE002 xBE003) else (none)) else (none)) else (impl_Board_far.l2 k x3 x4 x5 x6 x22 x23 x39 x40 (wrap64 (x41 + 1)) xBE000 xBE001 xBE002 xBE003)) else (none)) else (none)) else (none)) else (none)) else (impl_Board_far.l1 k x3 x4 x5 x22 (wrap64 (x23 + 1)) xBE000 xBE001 xBE002 xBE003)
end
def impl_Board_far.f (k : Nat) (a0_0 : Int) (a0_1 : Int) (a0_2 : Int) (l0_3 : List (S27)) : Option (List Int) := (slices_Repeat_int_int.f (([(-1)] : List Int)) (wrap64 (a0_0 + 1))).bind fun tBH => (if 0 ≤ a0_0 then (if a0_0 < (tBH.length : Int) then (impl_Board_far.l0 k (tBH.set (a0_0 : Int).toNat 0) 0 true a0_0 a0_1 a0_2 l0_3) else (none)) else (none))
set_option maxHeartbeats 8000000 in
set_option maxRecDepth 100000 in
theorem impl_Board_far.calls (k : Nat) (a0_0 : Int) (a0_1 : Int) (a0_2 : Int) (A0_3 : Option Addr) (c0_3 : Nat) (l0_3 : List (S27)) (r : List Int) (w : World) (hr0_3 : Kd.C k27 w A0_3 l0_3.length l0_3) (hc0_3 : l0_3.length ≤ c0_3) (h : impl_Board_far.f k a0_0 a0_1 a0_2 l0_3 = some r) :
  Calls Try.prog 130 #[.agg #[.int .i64 a0_0, .int .i64 a0_1, .int .i64 a0_2, .slice A0_3 l0_3.length c0_3]] w fun e w' => ∃ v0_ : Value, e = .returned (v0_) ∧ Kd.R (Kd.int .i64) 3 w' w.heap.size (fun _ => True) v0_ r ∧ Below w.heap.size w w' := by
 have hu32 := Try.underlying32
 have HR0_3 := Am hr0_3
 have HC0_3 := Am hc0_3
 clear hr0_3 hc0_3
 have HB := Am (Below.refl w.heap.size w)
 have H : ((slices_Repeat_int_int.f (([(-1)] : List Int)) (wrap64 (a0_0 + 1))).bind fun tBH => (if 0 ≤ a0_0 then (if a0_0 < (tBH.length : Int) then (impl_Board_far.l0 k (tBH.set (a0_0 : Int).toNat 0) 0 true a0_0 a0_1 a0_2 l0_3) else (none)) else (none))) = some r := h
 clear h
 obtain ⟨yBE, hyBE⟩ : ∃ y_ : List Int, y_ = (([(-1)] : List Int)) := ⟨_, rfl⟩
 replace H : ((slices_Repeat_int_int.f yBE (wrap64 (a0_0 + 1))).bind fun tBH => (if 0 ≤ a0_0 then (if a0_0 < (tBH.length : Int) then (impl_Board_far.l0 k (tBH.set (a0_0 : Int).toNat 0) 0 true a0_0 a0_1 a0_2 l0_3) else (none)) else (none))) = some r := by first | (rw [hyBE]; with_reducible exact H) | (have H2_ := (Option.bind_some _ _).symm.trans H; rw [hyBE]; with_reducible exact H2_) | (have H2_ := (Option.bind_some _ _).symm.trans H; with_reducible exact H2_) | with_reducible exact H | (rw [hyBE]; exact H) | exact H
 have NyBE := Am hyBE
 clear hyBE
 replace H := Option.bind_eq_some_iff.mp H
 obtain ⟨tBH, A20, H⟩ := H
 replace H : (if 0 ≤ a0_0 then (if a0_0 < (tBH.length : Int) then (impl_Board_far.l0 k (tBH.set (a0_0 : Int).toNat 0) 0 true a0_0 a0_1 a0_2 l0_3) else (none)) else (none)) = some r := H
 have A2 := Am A20
 clear A20
 by_cases c3 : 0 ≤ a0_0
 ·rw [if_pos c3] at H
  have c3b0 : decide (0 ≤ a0_0) = true := decide_eq_true c3
  clear c3
  by_cases c4 : a0_0 < (tBH.length : Int)
  ·rw [if_pos c4] at H
   have c4b0 : decide (a0_0 < (tBH.length : Int)) = true := decide_eq_true c4
   clear c4
   obtain ⟨yBK, hyBK⟩ : ∃ y_ : List Int, y_ = (tBH.set (a0_0 : Int).toNat 0) := ⟨_, rfl⟩
   replace H : (impl_Board_far.l0 k yBK 0 true a0_0 a0_1 a0_2 l0_3) = some r := by first | (rw [hyBK]; with_reducible exact H) | (have H2_ := (Option.bind_some _ _).symm.trans H; rw [hyBK]; with_reducible exact H2_) | (have H2_ := (Option.bind_some _ _).symm.trans H; with_reducible exact H2_) | with_reducible exact H | (rw [hyBK]; exact H) | exact H
   have NyBK := Am hyBK
   clear hyBK
   have H' := Am H
   clear H
   go_enter Try.func130, Try.ntmps130
   go_wp2_with (first | ((with_reducible refine gate_dst (N := 1) rfl ?_); refine box_event (by rfl) (N := 1) (by rfl) (cs := #[.int .i64 a0_0, .int .i64 a0_1, .int .i64 a0_2, .slice A0_3 l0_3.length c0_3]) (t := 32) hrS ?_; intro gbBD hg w6 hbox hb; have n0_ := Am (below_step belS hb); have n1_ := Am (hbox); have n2_ := Am (geS hg : w.heap.size ≤ gbBD); have n3_ := n2_; clear HB; revert n0_ n1_ n2_ n3_; intro HB BKBD GWBD GEBD; clear hb hbox hg) | ((with_reducible refine gate_dst (N := 9) rfl ?_); refine Kd.R_lit (Kd.int .i64) _ 3 ?hg (N := 9) ?hd (xs := ([(-1)] : List Int)) (inner := [.int .i64 (-1)]) (ok := fun _ => True) (okp := fun _ => True) ?hr ?hp (fun _ hk => hk) trivial (Below.refl _ _) (Nat.le_refl _) (by simp) ?_; (case hd => rfl); (case hg => rfl); (case hr => first | (go_simp; done) | (go_simp; rfl)); (case hp => exact (Reps.one (show Kd.M (Kd.int .i64) _ _ _ (-1) [.int .i64 (-1)] from rfl) (Reps.none _ _))); intro vBF w7 ho8 hb hg_ hnew_; clear hg_ hnew_; (first | rw [← NyBE.out] at ho8 | (simp only [Int.reduceToNat] at ho8; rw [← NyBE.out] at ho8)); have n0_ := Am (Kd.R_lower ho8 (below_size belS)); have n1_ := Am (blk_below (blk_up BKBD.out) hb); have n2_ := Am (below_step belS hb); clear BKBD HB; revert n0_ n1_ n2_; intro HOBG BKBD HB; clear hb ho8; obtain ⟨hcz9_0, hcz9_1, hcz9_2, hcz9_3, hfz9_0, hfz9_1, hfz9_2, hfz9_3⟩ := blk4 BKBD.out; obtain ⟨Ao10, co10, eo10⟩ := Kd.R_slice HOBG.out; subst eo10) | ((with_reducible refine gate_callee (f := 194) rfl ?_); refine goesL_ (some 13) rfl rfl Try.func194 (by kernel_rfl) rfl #[.slice Ao10 yBE.length co10, .int .i64 (wrap64 (a0_0 + 1))] rfl argS ?_; (with_reducible refine (slices_Repeat_int_int.calls _ _ yBE (wrap64 (a0_0 + 1)) tBH _ ?side1 ?side2 A2.out).mono ?_); (case side1 => exact Kd.C_up (Kd.R_reads' HOBG.out).2.2); (case side2 => exact (Kd.R_reads' HOBG.out).2.1); rintro e w11 ⟨vBI, rfl, ho0, hb⟩; refine ⟨_, rfl, ?_⟩; have n0_ := Am (Kd.R_elder' (Kd.R_up HOBG.out) (Kd.R_base ho0) hb); have n1_ := Am (Kd.R_lower (Kd.R_new' ho0 (Kd.R_lt (Kd.R_up HOBG.out))) (below_size belS)); have n2_ := Am (blk_below (blk_up BKBD.out) hb); have n3_ := Am (below_step belS hb); clear HOBG BKBD HB; revert n0_ n1_ n2_ n3_; intro HOBG HOBJ BKBD HB; (try clear hb); (try clear ho0); obtain ⟨hcz12_0, hcz12_1, hcz12_2, hcz12_3, hfz12_0, hfz12_1, hfz12_2, hfz12_3⟩ := blk4 BKBD.out; have p5 : 0 ≤ (a0_0 : Int) := ofd; have q5 : (a0_0 : Int) < ((tBH.length : Int) : Int) := ofd; obtain ⟨go5, co5, eo5, gb5, gl5, cl5, HG5⟩ := Kd.R_form HOBJ.out (by omega); (first | cases eo5 | (injection eo5 with ea_ en_ ec_; (first | subst ea_ | (injection ea_ with ea_; subst ea_)); subst ec_; clear en_)); have GB5 := Am gb5; have GG5 := Am HG5; clear gb5 gl5 HG5; obtain ⟨hx5_0, hf5_0⟩ := Kd.R_celln 0 HOBJ.out (a0_0 : Int) p5 q5; replace p5 := eq_true p5; replace q5 := eq_true q5; have n_ := Am (Kd.R_mono (ok' := (fun k_ => some k_ ≠ (.slice Ao10 yBE.length co10 : Value).ownBlock)) HOBJ.out (fun k_ hk => hk.2)); clear HOBJ; have HOBJ := n_; clear n_; obtain ⟨hy13_, hz13_⟩ := Kd.R_celln 0 HOBJ.out (a0_0 : Int) ofd ofd; have HP13 := Kd.R_putg HOBJ.out (a0_0 : Int) 0) | ((with_reducible refine gate_store (t := 3) (p := 17) rfl ?_); refine store_event (t := 3) (p := 17) (v := ?vo_w14) (w1 := (w11.setCell ⟨go5, (a0_0 : Int).toNat, none⟩ (.int .i64 0))) ?hg ?ho ?hn ?hr ?_; (case ho => rfl); (case hg => rfl); (case hn => rfl); (case hr => first | (go_simp; done) | (go_simp; rfl)); intro w14 hw; have hg : w11.grownBy w14 (some go5) := (by rw [hw]; exact HP13.2); have hp_ : Kd.R (Kd.int .i64) 3 w14 w.heap.size (fun k_ => some k_ ≠ (.slice Ao10 yBE.length co10 : Value).ownBlock) (.slice (some ⟨go5, 0, none⟩) tBH.length co5) yBK := (by rw [hw, NyBK.out]; exact HP13.1); clear HP13; have n0_ := Am (blk_grown (g := gbBD) (o := .cells #[.int .i64 a0_0, .int .i64 a0_1, .int .i64 a0_2, .slice A0_3 l0_3.length c0_3] 32 (0, 0)) (blk_up BKBD.out) hg (Kd.R_ne HOBJ.out BKBD.out (by decide))); have n1_ := Am (Kd.R_after (v := (.slice (some ⟨go5, 0, none⟩) tBH.length co5)) (v1 := (.slice (some ⟨go5, 0, none⟩) tBH.length co5)) (ok := (fun _ => True)) (Kd.R_up HOBG.out) hg (.inl rfl)); have n2_ := Am (hp_); have n3_ := Am ((by rw [hw]; exact below_set (HB.out) GB5.out : Below w.heap.size w w14)); clear BKBD HOBG HOBJ HB; revert n0_ n1_ n2_ n3_; intro BKBD HOBG HOBJ HB; clear hg hw hp_))
   go_loopg [4, 5] k (fun kq v4 v5 w' => ∃ (x3_1 : List Int) (x4_1 : Int) (x5_1 : Bool), v4 = .int .i64 x4_1 ∧ v5 = .bool x5_1 ∧ Aside0 (impl_Board_far.l0 kq x3_1 x4_1 x5_1 a0_0 a0_1 a0_2 l0_3 = some r) ∧ Aside0 (kq ≤ k) ∧ Aside0 (Kd.R (Kd.int .i64) 3 w' w.heap.size (fun _ => True) (.slice (some ⟨go5, 0, none⟩) tBH.length co5) x3_1) ∧ Aside0 (w'.heap[gbBD]? = some (.cells #[.int .i64 a0_0, .int .i64 a0_1, .int .i64 a0_2, (.slice A0_3 l0_3.length c0_3)] 32 (0, 0))) ∧ Aside0 (Below w.heap.size w w'))
   case atStart => exact ⟨(yBK), (0), (true), rfS, rfS, H', ⟨Nat.le_refl _⟩, ⟨by (with_reducible repeat (first | apply Kd.R_alloc | apply Kd.R_drewN | apply Kd.R_drew)); exact Kd.R_mono HOBJ.out (fun _ hk => trivial)⟩, ⟨by first | exact blk_up BKBD.out | exact BKBD.out⟩, ⟨by exact belS⟩⟩
   case round =>
    clear H'
    try clear c3
    try clear c3b0
    try clear c4
    try clear c4b0
    try clear p5
    try clear q5
    try clear hcz12_0 hcz12_1 hcz12_2 hcz12_3
    try clear hcz9_0 hcz9_1 hcz9_2 hcz9_3
    try clear hfz12_0 hfz12_1 hfz12_2 hfz12_3
    try clear hfz9_0 hfz9_1 hfz9_2 hfz9_3
    try clear hx5_0
    try clear p5
    try clear q5
    obtain ⟨x3_1, x4_1, x5_1, rfl, rfl, HA, HK1, HO_3, BKBD, HB⟩ := hrel
    have hl3_1 := (Kd.R_reads' HO_3.out).1
    rw [hl3_1] at HO_3
    (try simp only [hl3_1])
    (try simp only [hl3_1] at BKBD)
    cases gk with
    | zero => exact absurd HA.out (by simp [impl_Board_far.l0])
    | succ k1 =>
     have H := HA.out
     clear HA
     simp only [impl_Board_far.l0] at H
     by_cases c15 : x5_1 = true
     ·subst c15
      have H1 : (impl_Board_far.l1 k1 x3_1 x4_1 false a0_0 0 a0_0 a0_1 a0_2 l0_3) = some r := by rw [if_pos rfl] at H; exact H
      clear H
      have H := H1
      clear H1
      have H' := Am H
      clear H
      obtain ⟨hcz16_0, hcz16_1, hcz16_2, hcz16_3, hfz16_0, hfz16_1, hfz16_2, hfz16_3⟩ := blk4 BKBD.out
      go_wp2
      go_loopg [5, 23] k1 (fun kq v5 v23 w' => ∃ (x3_2 : List Int) (x5_2 : Bool) (x23_2 : Int), v5 = .bool x5_2 ∧ v23 = .int .i64 x23_2 ∧ Aside0 (impl_Board_far.l1 kq x3_2 x4_1 x5_2 a0_0 x23_2 a0_0 a0_1 a0_2 l0_3 = some r) ∧ Aside0 (kq ≤ k1) ∧ Aside0 (Kd.R (Kd.int .i64) 3 w' w.heap.size (fun _ => True) (.slice (some ⟨go5, 0, none⟩) x3_1.length co5) x3_2) ∧ Aside0 (w'.heap[gbBD]? = some (.cells #[.int .i64 a0_0, .int .i64 a0_1, .int .i64 a0_2, (.slice A0_3 l0_3.length c0_3)] 32 (0, 0))) ∧ Aside0 (Below w.heap.size w w'))
      case atStart => exact ⟨(x3_1), (false), (0), rfS, rfS, H', ⟨Nat.le_refl _⟩, ⟨by (try simp only [hl3_1]); (with_reducible repeat (first | apply Kd.R_alloc | apply Kd.R_drewN | apply Kd.R_drew)); exact HO_3.out⟩, ⟨by (try simp only [hl3_1]); (with_reducible repeat (first | refine blk_drewN ?_ _ | refine blk_drew ?_ | refine blk_alloc ?_ _)); exact BKBD.out⟩, ⟨by exact belS⟩⟩
      case round =>
       clear H'
       try clear c3
       try clear c3b0
       try clear c4
       try clear c4b0
       try clear p5
       try clear q5
       try clear c15
       try clear hcz12_0 hcz12_1 hcz12_2 hcz12_3
       try clear hcz16_0 hcz16_1 hcz16_2 hcz16_3
       try clear hcz9_0 hcz9_1 hcz9_2 hcz9_3
       try clear hfz12_0 hfz12_1 hfz12_2 hfz12_3
       try clear hfz16_0 hfz16_1 hfz16_2 hfz16_3
       try clear hfz9_0 hfz9_1 hfz9_2 hfz9_3
       try clear hx5_0
       try clear p5
       try clear q5
       obtain ⟨x3_2, x5_2, x23_2, rfl, rfl, HA, HK2, HO_3, BKBD, HB⟩ := hrel
       have hl3_2 := (Kd.R_reads' HO_3.out).1
       rw [hl3_2] at HO_3
       (try simp only [hl3_2])
       (try simp only [hl3_2] at BKBD)
       cases gk with
       | zero => exact absurd HA.out (by simp [impl_Board_far.l1])
       | succ k2 =>
        have H := HA.out
        clear HA
        simp only [impl_Board_far.l1] at H
        by_cases c17 : x23_2 < a0_0
        ·rw [if_pos c17] at H
         have c17b0 : decide (x23_2 < a0_0) = true := decide_eq_true c17
         clear c17
         have HC18 := Am H
         clear H
         go_upto_region 10 with (fail)
         go_cut [36] (fun v36 wc => ∃ (kq : Nat) (x36_17 : Bool), v36 = .bool x36_17 ∧ Aside0 (impl_Board_far.j2 kq x3_2 x4_1 x5_2 x23_2 a0_0 x23_2 x36_17 a0_0 a0_1 a0_2 l0_3 = some r) ∧ Aside0 (kq ≤ k2) ∧ Aside0 (Kd.R (Kd.int .i64) 3 wc w.heap.size (fun _ => True) (.slice (some ⟨go5, 0, none⟩) x3_2.length co5) x3_2) ∧ Aside0 (wc.heap[gbBD]? = some (.cells #[.int .i64 a0_0, .int .i64 a0_1, .int .i64 a0_2, (.slice A0_3 l0_3.length c0_3)] 32 (0, 0))) ∧ Aside0 (Below w.heap.size w wc))
         case first =>
          have H := HC18.out
          clear HC18
          by_cases c19 : 0 ≤ x23_2
          ·rw [if_pos c19] at H
           have c19b0 : decide (0 ≤ x23_2) = true := decide_eq_true c19
           clear c19
           (first | rw [c19b0] | (simp only [i64_w, i32_w]; rw [c19b0]) | skip)
           by_cases c20 : x23_2 < (x3_2.length : Int)
           ·rw [if_pos c20] at H
            have c20b0 : decide (x23_2 < (x3_2.length : Int)) = true := decide_eq_true c20
            (try (have c20b0z := c20b0; rw [hl3_1] at c20b0z))
            (try (have c20b0z := c20b0; rw [hl3_2] at c20b0z))
            clear c20
            by_cases c21 : (rd x3_2 x23_2) ≥ 0
            ·rw [if_pos c21] at H
             have c21b0 : decide (0 ≤ (rd x3_2 x23_2)) = true := decide_eq_true c21
             clear c21
             have H' := Am H
             clear H
             have pBL : 0 ≤ (x23_2 : Int) := ofd
             have qBL : x23_2 < (x3_2.length : Int) := ofd
             obtain ⟨adBL, eBL, hxBL_0⟩ := Kd.at_int (Kd.R_reads' HO_3.out).2.2 x23_2 pBL qBL
             obtain rfl : (⟨go5, 0, none⟩ : Addr) = adBL := (by injection eBL)
             (first | simp only [add_plain] at hxBL_0 | simp only [add_at] at hxBL_0 | simp only [Addr.add, Nat.zero_add] at hxBL_0 | skip)
             replace pBL := eq_true pBL
             replace qBL := eq_true qBL
             go_wp2
             go_meet
             case rel => exact ⟨_, (true), rfS, H', ⟨by have := HK1.out; have := HK2.out; first | omega | exact Nat.le_refl _⟩, ⟨by (try simp only [hl3_1]); (try simp only [hl3_2]); (with_reducible repeat (first | apply Kd.R_alloc | apply Kd.R_drewN | apply Kd.R_drew)); exact HO_3.out⟩, ⟨by (try simp only [hl3_1]); (try simp only [hl3_2]); (with_reducible repeat (first | refine blk_drewN ?_ _ | refine blk_drew ?_ | refine blk_alloc ?_ _)); exact BKBD.out⟩, ⟨by exact belS⟩⟩
            ·rw [if_neg c21] at H
             have c21b0 : decide (0 ≤ (rd x3_2 x23_2)) = false := decide_eq_false c21
             clear c21
             replace H := Option.bind_eq_some_iff.mp H
             obtain ⟨tBM, A220, H⟩ := H
             replace H : (impl_Board_far.j2 k2 x3_2 x4_1 x5_2 x23_2 a0_0 x23_2 (!tBM) a0_0 a0_1 a0_2 l0_3) = some r := H
             have A22 := Am A220
             clear A220
             have H' := Am H
             clear H
             have pBL : 0 ≤ (x23_2 : Int) := ofd
             have qBL : x23_2 < (x3_2.length : Int) := ofd
             obtain ⟨adBL, eBL, hxBL_0⟩ := Kd.at_int (Kd.R_reads' HO_3.out).2.2 x23_2 pBL qBL
             obtain rfl : (⟨go5, 0, none⟩ : Addr) = adBL := (by injection eBL)
             (first | simp only [add_plain] at hxBL_0 | simp only [add_at] at hxBL_0 | simp only [Addr.add, Nat.zero_add] at hxBL_0 | skip)
             replace pBL := eq_true pBL
             replace qBL := eq_true qBL
             obtain ⟨hcz23_0, hcz23_1, hcz23_2, hcz23_3, hfz23_0, hfz23_1, hfz23_2, hfz23_3⟩ := blk4 BKBD.out
             go_wp2_with (first | (go_at_call 166; (with_reducible refine (impl_Board_isSquare.calls k2 a0_0 a0_1 a0_2 _ _ l0_3 x23_2 tBM _ ?side1 ?side2 A22.out).mono ?_); (case side1 => exact Kd.C_up (Kd.C_below HR0_3.out HB.out)); (case side2 => exact HC0_3.out); rintro e w24 ⟨rfl, hb⟩; have n0_ := Am (Kd.R_below (Kd.R_up HO_3.out) hb); have n1_ := Am (blk_below (blk_up BKBD.out) hb); have n2_ := Am (below_step belS hb); clear HO_3 BKBD HB; revert n0_ n1_ n2_; intro HO_3 BKBD HB; (try clear hb); (try clear hb2); (try clear hk); (try clear hi)))
             go_meet
             case rel => exact ⟨_, (!tBM), rfS, H', ⟨by have := HK1.out; have := HK2.out; first | omega | exact Nat.le_refl _⟩, ⟨by (try simp only [hl3_1]); (try simp only [hl3_2]); (with_reducible repeat (first | apply Kd.R_alloc | apply Kd.R_drewN | apply Kd.R_drew)); exact HO_3.out⟩, ⟨by (try simp only [hl3_1]); (try simp only [hl3_2]); (with_reducible repeat (first | refine blk_drewN ?_ _ | refine blk_drew ?_ | refine blk_alloc ?_ _)); exact BKBD.out⟩, ⟨by exact belS⟩⟩
           ·rw [if_neg c20] at H
            exact absurd H (by simp)
          ·rw [if_neg c19] at H
           exact absurd H (by simp)
         case rest =>
          clear HC18
          try clear c3
          try clear c3b0
          try clear c4
          try clear c4b0
          try clear p5
          try clear q5
          try clear c15
          try clear c17
          try clear c17b0
          try clear hcz12_0 hcz12_1 hcz12_2 hcz12_3
          try clear hcz16_0 hcz16_1 hcz16_2 hcz16_3
          try clear hcz9_0 hcz9_1 hcz9_2 hcz9_3
          try clear hfz12_0 hfz12_1 hfz12_2 hfz12_3
          try clear hfz16_0 hfz16_1 hfz16_2 hfz16_3
          try clear hfz9_0 hfz9_1 hfz9_2 hfz9_3
          try clear hx5_0
          try clear p5
          try clear q5
          obtain ⟨kq, x36_17, rfl, HA, HJ17, HO_3, BKBD, HB⟩ := hcut
          cases kq with
          | zero => exact absurd HA.out (by simp [impl_Board_far.j2])
          | succ kj17 =>
           have H := HA.out
           clear HA
           simp only [impl_Board_far.j2] at H
           by_cases c25 : x36_17 = true
           ·subst c25
            have H1 : (impl_Board_far.l1 kj17 x3_2 x4_1 x5_2 a0_0 (wrap64 (x23_2 + 1)) a0_0 a0_1 a0_2 l0_3) = some r := by rw [if_pos rfl] at H; exact H
            clear H
            have H := H1
            clear H1
            have H' := Am H
            clear H
            go_wp2
            (try simp only [← hl3_2])
            go_roundg kj17
            case measure => have := HK1.out; have := HK2.out; have := HJ17.out; omega
            case rel => exact ⟨(x3_2), (x5_2), (wrap64 (x23_2 + 1)), rfS, rfS, H', ⟨by have := HK1.out; have := HK2.out; have := HJ17.out; omega⟩, ⟨by (try simp only [hl3_1]); (try simp only [hl3_2]); (with_reducible repeat (first | apply Kd.R_alloc | apply Kd.R_drewN | apply Kd.R_drew)); exact HO_3.out⟩, ⟨by (try simp only [hl3_1]); (try simp only [hl3_2]); (with_reducible repeat (first | refine blk_drewN ?_ _ | refine blk_drew ?_ | refine blk_alloc ?_ _)); exact BKBD.out⟩, ⟨by exact belS⟩⟩
           ·replace c25 := Bool.eq_false_iff.mpr c25
            subst c25
            have H1 : ((impl_Board_landings.f kj17 a0_0 a0_1 a0_2 l0_3 x23_2).bind fun tBN => (impl_Board_far.l2 kj17 x3_2 x4_1 x5_2 x23_2 a0_0 x23_2 tBN (tBN.length : Int) 0 a0_0 a0_1 a0_2 l0_3)) = some r := by rw [if_neg (show ¬ (false = true) by decide)] at H; exact H
            clear H
            have H := H1
            clear H1
            replace H := Option.bind_eq_some_iff.mp H
            obtain ⟨tBN, A260, H⟩ := H
            replace H : (impl_Board_far.l2 kj17 x3_2 x4_1 x5_2 x23_2 a0_0 x23_2 tBN (tBN.length : Int) 0 a0_0 a0_1 a0_2 l0_3) = some r := H
            have A26 := Am A260
            clear A260
            have H' := Am H
            clear H
            obtain ⟨hcz27_0, hcz27_1, hcz27_2, hcz27_3, hfz27_0, hfz27_1, hfz27_2, hfz27_3⟩ := blk4 BKBD.out
            go_wp2_with (first | ((with_reducible refine gate_callee (f := 145) rfl ?_); refine goesL_ (some 39) rfl rfl Try.func145 (by kernel_rfl) rfl #[.agg #[.int .i64 a0_0, .int .i64 a0_1, .int .i64 a0_2, .slice A0_3 l0_3.length c0_3], .int .i64 x23_2] rfl argS ?_; (with_reducible refine (impl_Board_landings.calls kj17 a0_0 a0_1 a0_2 _ _ l0_3 x23_2 tBN _ ?side1 ?side2 A26.out).mono ?_); (case side1 => exact Kd.C_up (Kd.C_below HR0_3.out HB.out)); (case side2 => exact HC0_3.out); rintro e w28 ⟨vBO, rfl, ho0, hb⟩; refine ⟨_, rfl, ?_⟩; have n0_ := Am (Kd.R_elder' (Kd.R_up HO_3.out) (Kd.R_base ho0) hb); have n1_ := Am (Kd.R_lower (Kd.R_new' ho0 (Kd.R_lt (Kd.R_up HO_3.out))) (below_size belS)); have n2_ := Am (blk_below (blk_up BKBD.out) hb); have n3_ := Am (below_step belS hb); clear HO_3 BKBD HB; revert n0_ n1_ n2_ n3_; intro HO_3 HOBP BKBD HB; (try clear hb); (try clear ho0); obtain ⟨Ao29, co29, eo29⟩ := Kd.R_slice HOBP.out; subst eo29))
            go_loopg [5, 41] kj17 (fun kq v5 v41 w' => ∃ (x3_4 : List Int) (x5_4 : Bool) (x41_4 : Int), v5 = .bool x5_4 ∧ v41 = .int .i64 x41_4 ∧ Aside0 (impl_Board_far.l2 kq x3_4 x4_1 x5_4 x23_2 a0_0 x23_2 tBN (tBN.length : Int) x41_4 a0_0 a0_1 a0_2 l0_3 = some r) ∧ Aside0 (kq ≤ kj17) ∧ Aside0 (Kd.R (Kd.int .i64) 3 w' w.heap.size (fun k_ => some k_ ≠ ((.slice Ao29 tBN.length co29) : Value).ownBlock) (.slice (some ⟨go5, 0, none⟩) x3_2.length co5) x3_4) ∧ Aside0 (Kd.R (Kd.int .i64) 3 w' w.heap.size (fun k_ => some k_ ≠ ((.slice (some ⟨go5, 0, none⟩) x3_2.length co5) : Value).ownBlock) (.slice Ao29 tBN.length co29) tBN) ∧ Aside0 (w'.heap[gbBD]? = some (.cells #[.int .i64 a0_0, .int .i64 a0_1, .int .i64 a0_2, (.slice A0_3 l0_3.length c0_3)] 32 (0, 0))) ∧ Aside0 (Below w.heap.size w w'))
            case atStart => exact ⟨(x3_2), (x5_2), (0), rfS, rfS, H', ⟨Nat.le_refl _⟩, ⟨by (try simp only [hl3_1]); (try simp only [hl3_2]); (with_reducible repeat (first | apply Kd.R_alloc | apply Kd.R_drewN | apply Kd.R_drew)); exact Kd.R_mono HO_3.out (fun _ hk => hk.2)⟩, ⟨by (try simp only [hl3_1]); (try simp only [hl3_2]); (with_reducible repeat (first | apply Kd.R_alloc | apply Kd.R_drewN | apply Kd.R_drew)); exact Kd.R_mono HOBP.out (fun _ hk => hk.2)⟩, ⟨by (try simp only [hl3_1]); (try simp only [hl3_2]); (with_reducible repeat (first | refine blk_drewN ?_ _ | refine blk_drew ?_ | refine blk_alloc ?_ _)); exact BKBD.out⟩, ⟨by exact belS⟩⟩
            case round =>
             clear H'
             try clear c3
             try clear c3b0
             try clear c4
             try clear c4b0
             try clear p5
             try clear q5
             try clear c15
             try clear c17
             try clear c17b0
             try clear c25
             try clear hcz12_0 hcz12_1 hcz12_2 hcz12_3
             try clear hcz16_0 hcz16_1 hcz16_2 hcz16_3
             try clear hcz27_0 hcz27_1 hcz27_2 hcz27_3
             try clear hcz9_0 hcz9_1 hcz9_2 hcz9_3
             try clear hfz12_0 hfz12_1 hfz12_2 hfz12_3
             try clear hfz16_0 hfz16_1 hfz16_2 hfz16_3
             try clear hfz27_0 hfz27_1 hfz27_2 hfz27_3
             try clear hfz9_0 hfz9_1 hfz9_2 hfz9_3
             try clear hx5_0
             try clear p5
             try clear q5
             obtain ⟨x3_4, x5_4, x41_4, rfl, rfl, HA, HK4, HO_3, HO_39, BKBD, HB⟩ := hrel
             have hl3_4 := (Kd.R_reads' HO_3.out).1
             rw [hl3_4] at HO_3
             (try simp only [hl3_4])
             (try simp only [hl3_4] at BKBD)
             (try simp only [hl3_4] at HO_39)
             cases gk with
             | zero => exact absurd HA.out (by simp [impl_Board_far.l2])
             | succ k4 =>
              have H := HA.out
              clear HA
              simp only [impl_Board_far.l2] at H
              by_cases c30 : x41_4 < (tBN.length : Int)
              ·rw [if_pos c30] at H
               have c30b0 : decide (x41_4 < (tBN.length : Int)) = true := decide_eq_true c30
               (try (have c30b0z := c30b0; rw [hl3_1] at c30b0z))
               (try (have c30b0z := c30b0; rw [hl3_2] at c30b0z))
               (try (have c30b0z := c30b0; rw [hl3_4] at c30b0z))
               clear c30
               by_cases c31 : 0 ≤ x41_4
               ·rw [if_pos c31] at H
                have c31b0 : decide (0 ≤ x41_4) = true := decide_eq_true c31
                clear c31
                by_cases c32 : x41_4 < (tBN.length : Int)
                ·rw [if_pos c32] at H
                 have c32b0 : decide (x41_4 < (tBN.length : Int)) = true := decide_eq_true c32
                 (try (have c32b0z := c32b0; rw [hl3_1] at c32b0z))
                 (try (have c32b0z := c32b0; rw [hl3_2] at c32b0z))
                 (try (have c32b0z := c32b0; rw [hl3_4] at c32b0z))
                 clear c32
                 by_cases c33 : 0 ≤ (rd tBN x41_4)
                 ·rw [if_pos c33] at H
                  have c33b0 : decide (0 ≤ (rd tBN x41_4)) = true := decide_eq_true c33
                  clear c33
                  by_cases c34 : (rd tBN x41_4) < (x3_4.length : Int)
                  ·rw [if_pos c34] at H
                   have c34b0 : decide ((rd tBN x41_4) < (x3_4.length : Int)) = true := decide_eq_true c34
                   (try (have c34b0z := c34b0; rw [hl3_1] at c34b0z))
                   (try (have c34b0z := c34b0; rw [hl3_2] at c34b0z))
                   (try (have c34b0z := c34b0; rw [hl3_4] at c34b0z))
                   clear c34
                   by_cases c35 : (rd x3_4 (rd tBN x41_4)) = x4_1
                   ·rw [if_pos c35] at H
                    have c35b0 : ((rd x3_4 (rd tBN x41_4)) == x4_1) = true := beq_iff_eq.mpr c35
                    have c35b1 : ((rd x3_4 (rd tBN x41_4)) != x4_1) = false := bne_eq_false_iff_eq.mpr c35
                    clear c35
                    by_cases c36 : 0 ≤ x23_2
                    ·rw [if_pos c36] at H
                     have c36b0 : decide (0 ≤ x23_2) = true := decide_eq_true c36
                     clear c36
                     by_cases c37 : x23_2 < (x3_4.length : Int)
                     ·rw [if_pos c37] at H
                      have c37b0 : decide (x23_2 < (x3_4.length : Int)) = true := decide_eq_true c37
                      (try (have c37b0z := c37b0; rw [hl3_1] at c37b0z))
                      (try (have c37b0z := c37b0; rw [hl3_2] at c37b0z))
                      (try (have c37b0z := c37b0; rw [hl3_4] at c37b0z))
                      clear c37
                      obtain ⟨yBS, hyBS⟩ : ∃ y_ : List Int, y_ = (x3_4.set (x23_2 : Int).toNat (wrap64 (x4_1 + 1))) := ⟨_, rfl⟩
                      replace H : (impl_Board_far.l2 k4 yBS x4_1 true x23_2 a0_0 x23_2 tBN (tBN.length : Int) (wrap64 (x41_4 + 1)) a0_0 a0_1 a0_2 l0_3) = some r := by first | (rw [hyBS]; with_reducible exact H) | (have H2_ := (Option.bind_some _ _).symm.trans H; rw [hyBS]; with_reducible exact H2_) | (have H2_ := (Option.bind_some _ _).symm.trans H; with_reducible exact H2_) | with_reducible exact H | (rw [hyBS]; exact H) | exact H
                      have NyBS := Am hyBS
                      clear hyBS
                      have H' := Am H
                      clear H
                      have pBQ : 0 ≤ (x41_4 : Int) := ofd
                      have qBQ : x41_4 < (tBN.length : Int) := ofd
                      obtain ⟨adBQ, eBQ, hxBQ_0⟩ := Kd.at_int (Kd.R_reads' HO_39.out).2.2 x41_4 pBQ qBQ
                      cases eBQ
                      replace pBQ := eq_true pBQ
                      replace qBQ := eq_true qBQ
                      have pBR : 0 ≤ ((rd tBN x41_4) : Int) := ofd
                      have qBR : (rd tBN x41_4) < (x3_4.length : Int) := ofd
                      obtain ⟨adBR, eBR, hxBR_0⟩ := Kd.at_int (Kd.R_reads' HO_3.out).2.2 (rd tBN x41_4) pBR qBR
                      obtain rfl : (⟨go5, 0, none⟩ : Addr) = adBR := (by injection eBR)
                      (first | simp only [add_plain] at hxBR_0 | simp only [add_at] at hxBR_0 | simp only [Addr.add, Nat.zero_add] at hxBR_0 | skip)
                      replace pBR := eq_true pBR
                      replace qBR := eq_true qBR
                      have p38 : 0 ≤ (x23_2 : Int) := ofd
                      have q38 : (x23_2 : Int) < ((x3_4.length : Int) : Int) := ofd
                      obtain ⟨hx38_0, hf38_0⟩ := Kd.R_celln 0 HO_3.out (x23_2 : Int) p38 q38
                      replace p38 := eq_true p38
                      replace q38 := eq_true q38
                      have HP39 := Kd.R_putg HO_3.out (x23_2 : Int) (wrap64 (x4_1 + 1))
                      go_wp2_with (first | ((with_reducible refine gate_store (t := 3) (p := 55) rfl ?_); refine store_event (t := 3) (p := 55) (v := ?vo_w40) (w1 := (wr.setCell ⟨go5, (x23_2 : Int).toNat, none⟩ (.int .i64 (wrap64 (x4_1 + 1))))) ?hg ?ho ?hn ?hr ?_; (case ho => rfl); (case hg => rfl); (case hn => rfl); (case hr => first | (go_simp; done) | (go_simp; rfl)); intro w40 hw; have hg : wr.grownBy w40 (some go5) := (by rw [hw]; exact HP39.2); have hp_ : Kd.R (Kd.int .i64) 3 w40 w.heap.size (fun k_ => some k_ ≠ (.slice (some adBQ) tBN.length co29 : Value).ownBlock) (.slice (some ⟨go5, 0, none⟩) x3_4.length co5) yBS := (by rw [hw, NyBS.out]; exact HP39.1); clear HP39; have n0_ := Am (hp_); have n1_ := Am (Kd.R_after (v := (.slice (some ⟨go5, 0, none⟩) x3_4.length co5)) (v1 := (.slice (some ⟨go5, 0, none⟩) x3_4.length co5)) (ok := (fun _ => True)) (by (with_reducible repeat (first | apply Kd.R_alloc | apply Kd.R_drewN | apply Kd.R_drew)); exact Kd.R_mono HO_39.out (fun _ hk => ⟨trivial, hk⟩)) hg (.inl rfl)); have n2_ := Am (blk_grown (g := gbBD) (o := .cells #[.int .i64 a0_0, .int .i64 a0_1, .int .i64 a0_2, .slice A0_3 l0_3.length c0_3] 32 (0, 0)) (blk_up BKBD.out) hg (Kd.R_ne HO_3.out BKBD.out (by decide))); have n3_ := Am ((by rw [hw]; exact below_set (HB.out) GB5.out : Below w.heap.size w w40)); clear HO_3 HO_39 BKBD HB; revert n0_ n1_ n2_ n3_; intro HO_3 HO_39 BKBD HB; clear hg hw hp_))
                      (try simp only [← hl3_4])
                      go_roundg k4
                      case measure => have := HK1.out; have := HK2.out; have := HJ17.out; have := HK4.out; omega
                      case rel => exact ⟨(yBS), (true), (wrap64 (x41_4 + 1)), rfS, rfS, H', ⟨by have := HK1.out; have := HK2.out; have := HJ17.out; have := HK4.out; omega⟩, ⟨by (try simp only [hl3_1]); (try simp only [hl3_2]); (try simp only [hl3_4]); (with_reducible repeat (first | apply Kd.R_alloc | apply Kd.R_drewN | apply Kd.R_drew)); exact HO_3.out⟩, ⟨by (try simp only [hl3_1]); (try simp only [hl3_2]); (try simp only [hl3_4]); (with_reducible repeat (first | apply Kd.R_alloc | apply Kd.R_drewN | apply Kd.R_drew)); exact Kd.R_mono HO_39.out (fun _ hk => hk.2)⟩, ⟨by (try simp only [hl3_1]); (try simp only [hl3_2]); (try simp only [hl3_4]); (with_reducible repeat (first | refine blk_drewN ?_ _ | refine blk_drew ?_ | refine blk_alloc ?_ _)); exact BKBD.out⟩, ⟨by exact belS⟩⟩
                     ·rw [if_neg c37] at H
                      exact absurd H (by simp)
                    ·rw [if_neg c36] at H
                     exact absurd H (by simp)
                   ·rw [if_neg c35] at H
                    have c35b0 : ((rd x3_4 (rd tBN x41_4)) == x4_1) = false := beq_eq_false_iff_ne.mpr c35
                    have c35b1 : ((rd x3_4 (rd tBN x41_4)) != x4_1) = true := bne_iff_ne.mpr c35
                    have H' := Am H
                    clear H
                    have pBQ : 0 ≤ (x41_4 : Int) := ofd
                    have qBQ : x41_4 < (tBN.length : Int) := ofd
                    obtain ⟨adBQ, eBQ, hxBQ_0⟩ := Kd.at_int (Kd.R_reads' HO_39.out).2.2 x41_4 pBQ qBQ
                    cases eBQ
                    replace pBQ := eq_true pBQ
                    replace qBQ := eq_true qBQ
                    have pBR : 0 ≤ ((rd tBN x41_4) : Int) := ofd
                    have qBR : (rd tBN x41_4) < (x3_4.length : Int) := ofd
                    obtain ⟨adBR, eBR, hxBR_0⟩ := Kd.at_int (Kd.R_reads' HO_3.out).2.2 (rd tBN x41_4) pBR qBR
                    obtain rfl : (⟨go5, 0, none⟩ : Addr) = adBR := (by injection eBR)
                    (first | simp only [add_plain] at hxBR_0 | simp only [add_at] at hxBR_0 | simp only [Addr.add, Nat.zero_add] at hxBR_0 | skip)
                    replace pBR := eq_true pBR
                    replace qBR := eq_true qBR
                    go_wp2
                    (try simp only [← hl3_4])
                    go_roundg k4
                    case measure => have := HK1.out; have := HK2.out; have := HJ17.out; have := HK4.out; omega
                    case rel => exact ⟨(x3_4), (x5_4), (wrap64 (x41_4 + 1)), rfS, rfS, H', ⟨by have := HK1.out; have := HK2.out; have := HJ17.out; have := HK4.out; omega⟩, ⟨by (try simp only [hl3_1]); (try simp only [hl3_2]); (try simp only [hl3_4]); (with_reducible repeat (first | apply Kd.R_alloc | apply Kd.R_drewN | apply Kd.R_drew)); exact HO_3.out⟩, ⟨by (try simp only [hl3_1]); (try simp only [hl3_2]); (try simp only [hl3_4]); (with_reducible repeat (first | apply Kd.R_alloc | apply Kd.R_drewN | apply Kd.R_drew)); exact HO_39.out⟩, ⟨by (try simp only [hl3_1]); (try simp only [hl3_2]); (try simp only [hl3_4]); (with_reducible repeat (first | refine blk_drewN ?_ _ | refine blk_drew ?_ | refine blk_alloc ?_ _)); exact BKBD.out⟩, ⟨by exact belS⟩⟩
                  ·rw [if_neg c34] at H
                   exact absurd H (by simp)
                 ·rw [if_neg c33] at H
                  exact absurd H (by simp)
                ·rw [if_neg c32] at H
                 exact absurd H (by simp)
               ·rw [if_neg c31] at H
                exact absurd H (by simp)
              ·rw [if_neg c30] at H
               have c30b0 : decide (x41_4 < (tBN.length : Int)) = false := decide_eq_false c30
               (try (have c30b0z := c30b0; rw [hl3_1] at c30b0z))
               (try (have c30b0z := c30b0; rw [hl3_2] at c30b0z))
               (try (have c30b0z := c30b0; rw [hl3_4] at c30b0z))
               clear c30
               have H' := Am H
               clear H
               go_wp2
               (try simp only [← hl3_2, ← hl3_4])
               go_roundg k4
               case measure => have := HK1.out; have := HK2.out; have := HJ17.out; have := HK4.out; omega
               case rel => exact ⟨(x3_4), (x5_4), (wrap64 (x23_2 + 1)), rfS, rfS, H', ⟨by have := HK1.out; have := HK2.out; have := HJ17.out; have := HK4.out; omega⟩, ⟨by (try simp only [hl3_1]); (try simp only [hl3_2]); (try simp only [hl3_4]); (with_reducible repeat (first | apply Kd.R_alloc | apply Kd.R_drewN | apply Kd.R_drew)); exact Kd.R_mono HO_3.out (fun _ hk => trivial)⟩, ⟨by (try simp only [hl3_1]); (try simp only [hl3_2]); (try simp only [hl3_4]); (with_reducible repeat (first | refine blk_drewN ?_ _ | refine blk_drew ?_ | refine blk_alloc ?_ _)); exact BKBD.out⟩, ⟨by exact belS⟩⟩
        ·rw [if_neg c17] at H
         have c17b0 : decide (x23_2 < a0_0) = false := decide_eq_false c17
         clear c17
         have H' := Am H
         clear H
         go_wp2
         (try simp only [← hl3_1, ← hl3_2])
         go_roundg k2
         case measure => have := HK1.out; have := HK2.out; omega
         case rel => exact ⟨(x3_2), (wrap64 (x4_1 + 1)), (x5_2), rfS, rfS, H', ⟨by have := HK1.out; have := HK2.out; omega⟩, ⟨by (try simp only [hl3_1]); (try simp only [hl3_2]); (with_reducible repeat (first | apply Kd.R_alloc | apply Kd.R_drewN | apply Kd.R_drew)); exact HO_3.out⟩, ⟨by (try simp only [hl3_1]); (try simp only [hl3_2]); (with_reducible repeat (first | refine blk_drewN ?_ _ | refine blk_drew ?_ | refine blk_alloc ?_ _)); exact BKBD.out⟩, ⟨by exact belS⟩⟩
     ·replace c15 := Bool.eq_false_iff.mpr c15
      subst c15
      have H1 : (some x3_1) = some r := by rw [if_neg (show ¬ (false = true) by decide)] at H; exact H
      clear H
      have H := H1
      clear H1
      obtain rfl := Option.some.inj H
      go_wp2
      go_ret
      exact ⟨_, rfE, by (with_reducible repeat (first | apply Kd.R_alloc | apply Kd.R_drewN | apply Kd.R_drew)); exact HO_3.out, by exact belS⟩
  ·rw [if_neg c4] at H
   exact absurd H (by simp)
 ·rw [if_neg c3] at H
  exact absurd H (by simp)

end Go.Proofs.Ytkobjjadojpjfaa.Pr
