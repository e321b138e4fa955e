-- A text of the machine side, written by wip/gen.py of this repo out of the translation. Not trusted: Lean checks it.
import Derived.Test.YtkobjjadojpjfaaF0
import Derived.Test.YtkobjjadojpjfaaHFvC
namespace Go.Proofs.Ytkobjjadojpjfaa.Pr
open Go.RowKit Go.Proofs.YtkobjjadojpjfaaW.PrintWords Go.Proofs.YtkobjjadojpjfaaW.PrintLast Go.Proofs.YtkobjjadojpjfaaW.PrintMore
attribute [local go_sem] max2_int min2_int max_two min_two max_three min_three max_four min_four   -- for this text's walks alone
set_option linter.unusedVariables false
set_option linter.unusedSimpArgs false

abbrev bImplJump220_0 : Array Bool := #[false, false, false, false, false, false, false, false, false, false, false, false, false, false, false, false, false]
abbrev bImplJump220_15 : Array Bool := #[true, true, true, true, true, true, true, true, true, true, true, true, true, true, true, false, false]
/-! ### impl_Jump_220: function 220 -/
mutual
def impl_Jump_220.l0 : Nat → List (S27) → Int → Int → FvC → Int → Option ((List (S27)))
 | 0, _, _, _, _, _ => none
 | k + 1, x0, x1, x2, x3, x8 => if x8 < x2 then (impl_Jump_220.l1 k x0 x1 x2 x3 x8 x8) else (some x0)
def impl_Jump_220.l1 : Nat → List (S27) → Int → Int → FvC → Int → Int → Option ((List (S27)))
 | 0, _, _, _, _, _, _ => none
 | k + 1, x0, x1, x2, x3, x8, x9 => if x9 > x1 then (if 0 ≤ x9 then (if x9 < (x0.length : Int) then (if 0 ≤ (wrap64 (x9 - 1)) then (if (wrap64 (x9 - 1)) < (x0.length : Int) then ((fvC_.f x3 ((rd_T27 x0 x9).f0) ((rd_T27 x0 x9).f1) ((rd_T27 x0 (wrap64 (x9 - 1))).f0) ((rd_T27 x0 (wrap64 (x9 - 1))).f1)).bind fun tBF => (if tBF < 0 then (impl_Jump_220.l1 k ((x0.set (x9 : Int).toNat (⟨(rd_T27 x0 (wrap64 (x9 - 1))).f0, (rd_T27 x0 (wrap64 (x9 - 1))).f1⟩ : S27)).set ((wrap64 (x9 - 1)) : Int).toNat (⟨(rd_T27 x0 x9).f0, (rd_T27 x0 x9).f1⟩ : S27)) x1 x2 x3 x8 (wrap64 (x9 - 1))) else (impl_Jump_220.l0 k x0 x1 x2 x3 (wrap64 (x8 + 1))))) else (none)) else (none)) else (none)) else (none)) else (impl_Jump_220.l0 k x0 x1 x2 x3 (wrap64 (x8 + 1)))
end
def impl_Jump_220.f (k : Nat) (l0 : List (S27)) (a1 : Int) (a2 : Int) (a3 : FvC) : Option ((List (S27))) := impl_Jump_220.l0 k l0 a1 a2 a3 (wrap64 (a1 + 1))
def impl_Jump_220.T4 : Bool × List (List Nat × List Nat) := (true, [([], []), ([], []), ([0, 1], [0, 1]), ([2], [2]), ([3], [3]), ([3], [3]), ([3], [3]), ([5, 6, 3], [3, 5, 6]), ([7, 3], [3, 7]), ([3], [3]), ([3], [3]), ([10, 3], [3, 10]), ([9, 11, 3], [3, 9, 11]), ([12, 3], [3, 12]), ([4, 8, 13, 3, 3], [3, 4, 8, 13]), ([14, 3], [3, 14]), ([3, 15], [3, 15])])
def impl_Jump_220.B4 : List Nat := [0, 0, 3, 7, 15, 15, 15, 111, 239, 15, 15, 1039, 3599, 7695, 16383, 32767, 65535]
theorem impl_Jump_220.tab4 : rtab .any (opsOf Try.f220 4) = impl_Jump_220.T4 := by kernel_rfl
theorem impl_Jump_220.bits4 : waitsOk impl_Jump_220.T4.2 impl_Jump_220.B4 = true := by kernel_rfl
def impl_Jump_220.T6 : Bool × List (List Nat × List Nat) := (true, [([], []), ([], []), ([], []), ([], []), ([3], [3]), ([], []), ([], []), ([6], [6]), ([5, 7], [5, 7]), ([8], [8]), ([], []), ([], []), ([10, 11], [10, 11]), ([12], [12]), ([0, 1, 0, 1, 5, 6, 7, 8, 9, 13], [0, 1]), ([14, 9, 0, 1, 5, 6, 7, 8, 9, 13], [9, 14]), ([2, 4, 0, 1, 2, 3, 4, 5, 6, 7, 8, 9, 10, 11, 12, 13, 14, 15], [2, 4]), ([16, 13, 15, 0, 1, 2, 3, 4, 5, 6, 7, 8, 9, 10, 11, 12, 13, 14, 15], [13, 16])])
def impl_Jump_220.B6 : List Nat := [0, 0, 0, 0, 8, 0, 0, 64, 224, 480, 0, 0, 3072, 7168, 16355, 32739, 65535, 131071]
theorem impl_Jump_220.tab6 : rtab .any (opsOf Try.f220 6) = impl_Jump_220.T6 := by kernel_rfl
theorem impl_Jump_220.bits6 : waitsOk impl_Jump_220.T6.2 impl_Jump_220.B6 = true := by kernel_rfl
set_option maxHeartbeats 8000000 in
set_option maxRecDepth 100000 in
theorem impl_Jump_220.calls (k : Nat) (P0_ : Nat → Prop) (u9000_ : Value) (l0 : List (S27)) (a1 : Int) (a2 : Int) (a3 : FvC) (r : List (S27)) (w0 w : World) (hB : Below w0.heap.size w0 w) (ho0 : Kd.R k27 27 w w0.heap.size P0_ u9000_ l0) (h : impl_Jump_220.f k l0 a1 a2 a3 = some r) (hp : FvC.Ok a3) :
  Calls Try.prog 220 #[u9000_, .int .i64 a1, .int .i64 a2, FvC.v a3] w fun e w' => e = .returned (.tuple #[]) ∧ Kd.R k27 27 w' w0.heap.size (fun k_ => (P0_ k_ ∨ w.heap.size ≤ k_)) u9000_ r ∧ Below w0.heap.size w0 w' ∧ Kept w w' (fun k_ => P0_ k_) := by
 have HP := Am hp
 clear hp
 have hu27 := Try.underlying27
 have HO0 := Am (show Kd.R k27 27 w w0.heap.size (fun k_ => (P0_ k_ ∨ w.heap.size ≤ k_)) u9000_ l0 from Kd.R_mono ho0 (fun k_ hk => (.inl hk)))
 have HK := Am (Kept.refl w (fun k_ => P0_ k_))
 have HW0 := Am hB.size
 have HB := Am hB
 clear hB
 have H : (impl_Jump_220.l0 k l0 a1 a2 a3 (wrap64 (a1 + 1))) = some r := h
 clear h
 have H' := Am H
 clear H
 go_enter Try.func220, Try.ntmps220
 go_wp2
 (try simp only [Act.put, sA_, sB_, sC_])
 go_loopg [8] k (fun kq v8 w' => ∃ (x0_1 : List (S27)) (x8_1 : Int), v8 = .int .i64 x8_1 ∧ Aside0 (impl_Jump_220.l0 kq x0_1 a1 a2 a3 x8_1 = some r) ∧ Aside0 (kq ≤ k) ∧ Aside0 (Kd.R k27 27 w' w0.heap.size (fun k_ => (P0_ k_ ∨ w.heap.size ≤ k_)) u9000_ x0_1) ∧ Aside0 (Kept w w' (fun k_ => P0_ k_)) ∧ Aside0 (Below w0.heap.size w0 w'))
 case atStart => exact ⟨(l0), (wrap64 (a1 + 1)), rfS, H', ⟨Nat.le_refl _⟩, ⟨by first | exact Kd.R_up HO0.out | exact HO0.out⟩, ⟨by repeat (first | (with_reducible first | exact HK.out | apply Kept.alloc | apply Kept.drewN | apply Kept.drew) | exact HK.out)⟩, ⟨by exact belS⟩⟩
 case round =>
  clear H'
  obtain ⟨x0_1, x8_1, rfl, HA, HK1, HO_0, HK, HB⟩ := hrel
  cases gk with
  | zero => exact absurd HA.out (by simp [impl_Jump_220.l0])
  | succ k1 =>
   have H := HA.out
   clear HA
   simp only [impl_Jump_220.l0] at H
   by_cases c5 : x8_1 < a2
   ·rw [if_pos c5] at H
    have c5b0 : decide (x8_1 < a2) = true := decide_eq_true c5
    clear c5
    have H' := Am H
    clear H
    go_wp2
    (try simp only [Act.put, sA_, sB_, sC_])
    go_loopg [9] k1 (fun kq v9 w' => ∃ (x0_2 : List (S27)) (x9_2 : Int), v9 = .int .i64 x9_2 ∧ Aside0 (impl_Jump_220.l1 kq x0_2 a1 a2 a3 x8_1 x9_2 = some r) ∧ Aside0 (kq ≤ k1) ∧ Aside0 (Kd.R k27 27 w' w0.heap.size (fun k_ => (P0_ k_ ∨ w.heap.size ≤ k_)) u9000_ x0_2) ∧ Aside0 (Kept w w' (fun k_ => P0_ k_)) ∧ Aside0 (Below w0.heap.size w0 w'))
    case atStart => exact ⟨(x0_1), (x8_1), rfS, H', ⟨Nat.le_refl _⟩, ⟨by first | exact Kd.R_up HO_0.out | exact HO_0.out⟩, ⟨by repeat (first | (with_reducible first | exact HK.out | apply Kept.alloc | apply Kept.drewN | apply Kept.drew) | exact HK.out)⟩, ⟨by exact belS⟩⟩
    case round =>
     clear H'
     try clear c5
     try clear c5b0
     obtain ⟨x0_2, x9_2, rfl, HA, HK2, HO_0, HK, HB⟩ := hrel
     cases gk with
     | zero => exact absurd HA.out (by simp [impl_Jump_220.l1])
     | succ k2 =>
      have H := HA.out
      clear HA
      simp only [impl_Jump_220.l1] at H
      by_cases c6 : x9_2 > a1
      ·rw [if_pos c6] at H
       have c6b0 : decide (a1 < x9_2) = true := decide_eq_true c6
       clear c6
       by_cases c7 : 0 ≤ x9_2
       ·rw [if_pos c7] at H
        have c7b0 : decide (0 ≤ x9_2) = true := decide_eq_true c7
        clear c7
        by_cases c8 : x9_2 < (x0_2.length : Int)
        ·rw [if_pos c8] at H
         have c8b0 : decide (x9_2 < (x0_2.length : Int)) = true := decide_eq_true c8
         clear c8
         obtain ⟨ji9, hji9⟩ : ∃ j_ : Int, (wrap64 (x9_2 - 1)) = j_ := ⟨_, rfl⟩
         replace H : (if 0 ≤ (ji9) then (if (ji9) < (x0_2.length : Int) then ((fvC_.f a3 ((rd_T27 x0_2 x9_2).f0) ((rd_T27 x0_2 x9_2).f1) ((rd_T27 x0_2 (ji9)).f0) ((rd_T27 x0_2 (ji9)).f1)).bind fun tBF => (if tBF < 0 then (impl_Jump_220.l1 k2 ((x0_2.set (x9_2 : Int).toNat (⟨(rd_T27 x0_2 (ji9)).f0, (rd_T27 x0_2 (ji9)).f1⟩ : S27)).set ((ji9) : Int).toNat (⟨(rd_T27 x0_2 x9_2).f0, (rd_T27 x0_2 x9_2).f1⟩ : S27)) a1 a2 a3 x8_1 ji9) else (impl_Jump_220.l0 k2 x0_2 a1 a2 a3 (wrap64 (x8_1 + 1))))) else (none)) else (none)) = some r := by first | (rw [hji9] at H; exact H) | (simp only [hji9] at H ⊢; exact H)
         have hji9w : (IntKind.i64.wrap (x9_2 - 1)) = ji9 := (i64_w _).trans hji9
         by_cases c10 : 0 ≤ (ji9)
         ·rw [if_pos c10] at H
          have c10b0 : decide (0 ≤ (ji9)) = true := decide_eq_true c10
          clear c10
          by_cases c11 : (ji9) < (x0_2.length : Int)
          ·rw [if_pos c11] at H
           have c11b0 : decide ((ji9) < (x0_2.length : Int)) = true := decide_eq_true c11
           clear c11
           replace H := Option.bind_eq_some_iff.mp H
           obtain ⟨tBF, A120, H⟩ := H
           replace H : (if tBF < 0 then (impl_Jump_220.l1 k2 ((x0_2.set (x9_2 : Int).toNat (⟨(rd_T27 x0_2 (ji9)).f0, (rd_T27 x0_2 (ji9)).f1⟩ : S27)).set ((ji9) : Int).toNat (⟨(rd_T27 x0_2 x9_2).f0, (rd_T27 x0_2 x9_2).f1⟩ : S27)) a1 a2 a3 x8_1 ji9) else (impl_Jump_220.l0 k2 x0_2 a1 a2 a3 (wrap64 (x8_1 + 1)))) = some r := H
           have A12 := Am A120
           clear A120
           by_cases c13 : tBF < 0
           ·rw [if_pos c13] at H
            have c13b0 : decide (tBF < 0) = true := decide_eq_true c13
            clear c13
            obtain ⟨yBI, hyBI⟩ : ∃ y_ : List (S27), y_ = (x0_2.set (x9_2 : Int).toNat (⟨(rd_T27 x0_2 (ji9)).f0, (rd_T27 x0_2 (ji9)).f1⟩ : S27)) := ⟨_, rfl⟩
            replace H : (impl_Jump_220.l1 k2 (yBI.set ((ji9) : Int).toNat (⟨(rd_T27 x0_2 x9_2).f0, (rd_T27 x0_2 x9_2).f1⟩ : S27)) a1 a2 a3 x8_1 ji9) = some r := by first | (rw [hyBI]; with_reducible exact H) | (have H2_ := (Option.bind_some _ _).symm.trans H; rw [hyBI]; with_reducible exact H2_) | (have H2_ := (Option.bind_some _ _).symm.trans H; with_reducible exact H2_) | with_reducible exact H | (rw [hyBI]; exact H) | exact H
            have NyBI := Am hyBI
            clear hyBI
            obtain ⟨yBJ, hyBJ⟩ : ∃ y_ : List (S27), y_ = (yBI.set ((ji9) : Int).toNat (⟨(rd_T27 x0_2 x9_2).f0, (rd_T27 x0_2 x9_2).f1⟩ : S27)) := ⟨_, rfl⟩
            replace H : (impl_Jump_220.l1 k2 yBJ a1 a2 a3 x8_1 ji9) = some r := by first | (rw [hyBJ]; with_reducible exact H) | (have H2_ := (Option.bind_some _ _).symm.trans H; rw [hyBJ]; with_reducible exact H2_) | (have H2_ := (Option.bind_some _ _).symm.trans H; with_reducible exact H2_) | with_reducible exact H | (rw [hyBJ]; exact H) | exact H
            have NyBJ := Am hyBJ
            clear hyBJ
            have H' := Am H
            clear H
            try go_wp2
            have n0_ := Am (Kd.R_drew HO_0.out)
            have n1_ := Am (Kept.drew HK.out)
            have n2_ := Am (below_drew1 HB.out)
            clear HO_0
            clear HK
            clear HB
            have HO_0 := n0_
            have HK := n1_
            have HB := n2_
            clear n0_ n1_ n2_
            obtain ⟨Ao17, co17, eo17⟩ := Kd.R_slice HO_0.out
            (first | subst eo17 | (injection eo17 with f1_ f2_ f3_; have f4_ := f1_.symm; have f5_ := f3_.symm; clear f1_ f2_ f3_; subst f4_; subst f5_))
            have pBD : 0 ≤ (x9_2 : Int) := ofd
            have qBD : x9_2 < (x0_2.length : Int) := ofd
            obtain ⟨adBD, eBD, hxBD_0, hxBD_1⟩ := at_T27 (Kd.R_reads' HO_0.out).2.2 x9_2 pBD qBD
            cases eBD
            replace pBD := eq_true pBD
            replace qBD := eq_true qBD
            have pBE : 0 ≤ ((ji9) : Int) := ofd
            have qBE : (ji9) < (x0_2.length : Int) := ofd
            obtain ⟨adBE, eBE, hxBE_0, hxBE_1⟩ := at_T27 (Kd.R_reads' HO_0.out).2.2 (ji9) pBE qBE
            obtain rfl : adBD = adBE := (by injection eBE)
            replace pBE := eq_true pBE
            replace qBE := eq_true qBE
            refine start_ (n := 17) (S := fun w' => w'.cell? (adBD.add ((x9_2).toNat * 2)) = some (.int .i64 ((rd_T27 x0_2 x9_2).f0)) ∧ w'.cell? ⟨(adBD.add ((x9_2).toNat * 2)).block, (adBD.add ((x9_2).toNat * 2)).off + 1, none⟩ = some (.int .i64 ((rd_T27 x0_2 x9_2).f1)) ∧ w'.cell? (adBD.add (((ji9)).toNat * 2)) = some (.int .i64 ((rd_T27 x0_2 (ji9)).f0)) ∧ w'.cell? ⟨(adBD.add (((ji9)).toNat * 2)).block, (adBD.add (((ji9)).toNat * 2)).off + 1, none⟩ = some (.int .i64 ((rd_T27 x0_2 (ji9)).f1))) (ds := []) bImplJump220_0 (by kernel_rfl) rfl rfl ⟨hxBD_0, hxBD_1, hxBE_0, hxBE_1⟩ (fun hHeld => ?_); refine with_tabW impl_Jump_220.tab4 impl_Jump_220.bits4 (fun HT_ HW_ => ?_)
            generalize wr.drew = w16 at HO_0 HK HB hxBD_0 hxBD_1 hxBE_0 hxBE_1 hHeld ⊢
            refine puS 0 18 ?_
            refine puS 1 19 ?_
            refine puS 2 20 ?_
            refine puS 3 21 ?_
            refine puS 4 22 ?_
            refine puS 5 23 ?_
            refine puS 6 24 ?_
            refine puS 7 25 ?_
            refine puS 9 27 ?_
            refine puS 10 28 ?_
            refine puS 11 29 ?_
            refine puS 12 30 ?_
            refine tkS 8 26 ?_
            refine tkS 13 31 ?_
            refine one_ (i := 14) (N := some 32) bImplJump220_15 rfl rfl (one_of HT_.out (by kernel_rfl)) (by decide) (fun K hK => ?_)
            refine goesVR_ HP.out.eg #[.agg #[.int .i64 ((rd_T27 x0_2 x9_2).f0), .int .i64 ((rd_T27 x0_2 x9_2).f1)], .agg #[.int .i64 ((rd_T27 x0_2 (ji9)).f0), .int .i64 ((rd_T27 x0_2 (ji9)).f1)]] (by rfl) rfl rfl (by (try simp only [List.map_toArray, List.map_cons, List.map_nil]); first | done | (simp only [hji9]; rfl) | rfl | (simp only [List.length_drop, List.length_take]; rfl)) ?_
            with_reducible refine (HP.out.go _ ((rd_T27 x0_2 x9_2).f0) ((rd_T27 x0_2 x9_2).f1) ((rd_T27 x0_2 (ji9)).f0) ((rd_T27 x0_2 (ji9)).f1) tBF A12.out).mono ?_
            rintro e w18 ⟨rfl, hb⟩
            have HS0_ := (hb.cell (World.block_lt_of_cell? _ _ (hHeld.1))).trans (hHeld.1)
            have HS1_ := (hb.cell (World.block_lt_of_cell? _ _ (hHeld.2.1))).trans (hHeld.2.1)
            have HS2_ := (hb.cell (World.block_lt_of_cell? _ _ (hHeld.2.2.1))).trans (hHeld.2.2.1)
            have HS3_ := (hb.cell (World.block_lt_of_cell? _ _ (hHeld.2.2.2))).trans (hHeld.2.2.2)
            refine ⟨_, rfl, ?_⟩
            have n0_ := Am (Kd.R_below (Kd.R_up HO_0.out) hb)
            have n1_ := Am (Kept.below (S := (fun k_ => P0_ k_)) (by repeat (first | (with_reducible first | exact HK.out | apply Kept.alloc | apply Kept.drewN | apply Kept.drew) | exact HK.out)) hb)
            have n2_ := Am (below_step belS hb)
            clear HO_0
            clear HK
            clear HB
            have HO_0 := n0_
            have HK := n1_
            have HB := n2_
            clear n0_ n1_ n2_
            (try clear hb)
            (try clear hb2)
            (try clear hk)
            (try clear hi)
            refine hK.out _ _ ⟨HS0_, HS1_, HS2_, HS3_⟩ (fun hHeld => ?_)
            clear hK K
            refine norm_ (a' := ?_) ?_ ?_
            rotate_left
            ·show Act.put _ (some 32) _ = _
             simp only [Act.put, sA_, sB_, sC_, i64_w, i32_w]
             rfl
            refine puS 15 33 ?_
            refine puS 16 34 ?_
            refine done_ (done_of HT_.out (by kernel_rfl)) ?_
            try go_wp2
            have n0_ := Am (Kd.R_drew HO_0.out)
            have n1_ := Am (Kept.drew HK.out)
            have n2_ := Am (below_drew1 HB.out)
            clear HO_0
            clear HK
            clear HB
            have HO_0 := n0_
            have HK := n1_
            have HB := n2_
            clear n0_ n1_ n2_
            have pBG : 0 ≤ ((ji9) : Int) := ofd
            have qBG : (ji9) < (x0_2.length : Int) := ofd
            obtain ⟨adBG, eBG, hxBG_0, hxBG_1⟩ := at_T27 (Kd.R_reads' HO_0.out).2.2 (ji9) pBG qBG
            obtain rfl : adBD = adBG := (by injection eBG)
            replace pBG := eq_true pBG
            replace qBG := eq_true qBG
            have pBH : 0 ≤ (x9_2 : Int) := ofd
            have qBH : x9_2 < (x0_2.length : Int) := ofd
            obtain ⟨adBH, eBH, hxBH_0, hxBH_1⟩ := at_T27 (Kd.R_reads' HO_0.out).2.2 x9_2 pBH qBH
            obtain rfl : adBD = adBH := (by injection eBH)
            replace pBH := eq_true pBH
            replace qBH := eq_true qBH
            have p14 : 0 ≤ (x9_2 : Int) := ofd
            have q14 : (x9_2 : Int) < ((x0_2.length : Int) : Int) := ofd
            obtain ⟨go14, co14, eo14, gb14, gl14, cl14, HG14⟩ := Kd.R_form HO_0.out (by omega)
            (first | cases eo14 | (injection eo14 with ea_ en_ ec_; (first | subst ea_ | (injection ea_ with ea_; subst ea_)); subst ec_; clear en_))
            have GB14 := Am gb14
            have GG14 := Am HG14
            clear gb14 gl14 HG14
            have HMgo14 := Am (show (P0_ go14 ∨ w.heap.size ≤ go14) from (HO_0.out.1 _ rfl))
            (first | simp only [add_plain] at hxBD_0 | skip)
            (first | simp only [add_plain] at hxBD_1 | skip)
            (first | simp only [add_plain] at hxBE_0 | skip)
            (first | simp only [add_plain] at hxBE_1 | skip)
            (first | simp only [add_plain] at hxBG_0 | skip)
            (first | simp only [add_plain] at hxBG_1 | skip)
            (first | simp only [add_plain] at hxBH_0 | skip)
            (first | simp only [add_plain] at hxBH_1 | skip)
            obtain ⟨ce14, hcl14, hM14, hcc14, hfr14⟩ := Kd.R_elem HO_0.out z27 (x9_2 : Int) p14 q14
            obtain rfl := k27_openM hM14
            have hx14_0 : World.cell? _ ⟨go14, (x9_2 : Int).toNat * 2, none⟩ = some (.int .i64 ((rd_T27 x0_2 x9_2).f0)) := hcc14 0 _ rfl
            have hx14_1 : World.cell? _ ⟨go14, (x9_2 : Int).toNat * 2 + 1, none⟩ = some (.int .i64 ((rd_T27 x0_2 x9_2).f1)) := hcc14 1 _ rfl
            have hf14_0 : World.frozen? _ ⟨go14, (x9_2 : Int).toNat * 2, none⟩ = false := hfr14 0
            have hf14_1 : World.frozen? _ ⟨go14, (x9_2 : Int).toNat * 2 + 1, none⟩ = false := hfr14 1
            clear hcl14 hcc14 hfr14 hM14
            replace p14 := eq_true p14
            replace q14 := eq_true q14
            obtain ⟨ce20, hcl20, hM20, hcc20, hfr20⟩ := Kd.R_elem HO_0.out z27 (x9_2 : Int) ofd (by have h_ : (x9_2 : Int) < ((x0_2.length : Int) : Int) := ofd; first | exact h_ | (have e_ := (Kd.R_reads' HO_0.out).1; omega) | simpa using h_)
            obtain rfl := k27_openM hM20
            have HP20 := (Kd.R_seg HO_0.out (x9_2 : Int) ofd (by have h_ : (x9_2 : Int) < ((x0_2.length : Int) : Int) := ofd; first | exact h_ | (have e_ := (Kd.R_reads' HO_0.out).1; omega) | simpa using h_) (seg := [.int .i64 ((rd_T27 x0_2 (ji9)).f0), .int .i64 ((rd_T27 x0_2 (ji9)).f1)]) (j := 0) hcl20 hcc20 (show 2 ≤ 2 from by decide) (x' := (⟨(rd_T27 x0_2 (ji9)).f0, (rd_T27 x0_2 (ji9)).f1⟩ : S27)) (k27_mkM _ _ _ (⟨(rd_T27 x0_2 (ji9)).f0, (rd_T27 x0_2 (ji9)).f1⟩ : S27) ) (fun _ hk => hk)).1
            rw [← NyBI.out] at HP20
            have HQ20 := Am HP20
            clear hcl20 hcc20 hfr20 hM20 HP20
            have p15 : 0 ≤ ((ji9) : Int) := ofd
            have q15 : ((ji9) : Int) < ((x0_2.length : Int) : Int) := ofd
            obtain ⟨ce15, hcl15, hM15, hcc15, hfr15⟩ := Kd.R_elem HQ20.out z27 ((ji9) : Int) p15 q15
            obtain rfl := k27_openM hM15
            have hx15_0 : World.cell? _ ⟨go14, ((ji9) : Int).toNat * 2, none⟩ = some (.int .i64 ((rd_T27 yBI (ji9)).f0)) := hcc15 0 _ rfl
            have hx15_1 : World.cell? _ ⟨go14, ((ji9) : Int).toNat * 2 + 1, none⟩ = some (.int .i64 ((rd_T27 yBI (ji9)).f1)) := hcc15 1 _ rfl
            have hf15_0 : World.frozen? _ ⟨go14, ((ji9) : Int).toNat * 2, none⟩ = false := hfr15 0
            have hf15_1 : World.frozen? _ ⟨go14, ((ji9) : Int).toNat * 2 + 1, none⟩ = false := hfr15 1
            have hz15_0 := set2_c0 (i := (x9_2 : Int).toNat) (j := ((ji9) : Int).toNat) hx15_0
            have hz15_1 := set2_c1 (i := (x9_2 : Int).toNat) (j := ((ji9) : Int).toNat) hx15_1
            have hw15_1 := set2_d1 (i := (x9_2 : Int).toNat) (j := ((ji9) : Int).toNat) hx15_1
            have hy15_0 := set2_f hf15_0
            have hy15_1 := set2_f hf15_1
            clear hcl15 hcc15 hfr15 hM15
            replace p15 := eq_true p15
            replace q15 := eq_true q15
            obtain ⟨ce21, hcl21, hM21, hcc21, hfr21⟩ := Kd.R_elem HQ20.out z27 ((ji9) : Int) ofd (by have h_ : ((ji9) : Int) < ((x0_2.length : Int) : Int) := ofd; first | exact h_ | (have e_ := (Kd.R_reads' HO_0.out).1; omega) | simpa using h_)
            obtain rfl := k27_openM hM21
            have HP21 := (Kd.R_seg HQ20.out ((ji9) : Int) ofd (by have h_ : ((ji9) : Int) < ((x0_2.length : Int) : Int) := ofd; first | exact h_ | (have e_ := (Kd.R_reads' HO_0.out).1; omega) | simpa using h_) (seg := [.int .i64 ((rd_T27 x0_2 x9_2).f0), .int .i64 ((rd_T27 x0_2 x9_2).f1)]) (j := 0) hcl21 hcc21 (show 2 ≤ 2 from by decide) (x' := (⟨(rd_T27 x0_2 x9_2).f0, (rd_T27 x0_2 x9_2).f1⟩ : S27)) (k27_mkM _ _ _ (⟨(rd_T27 x0_2 x9_2).f0, (rd_T27 x0_2 x9_2).f1⟩ : S27) ) (fun _ hk => hk)).1
            rw [← NyBJ.out] at HP21
            have HQ21 := Am HP21
            clear hcl21 hcc21 hfr21 hM21 HP21
            refine start_ (n := 18) (S := fun w' => w'.cell? ⟨go14, (((ji9)).toNat * 2), none⟩ = some (.int .i64 ((rd_T27 x0_2 (ji9)).f0)) ∧ w'.cell? ⟨go14, (((ji9)).toNat * 2) + 1, none⟩ = some (.int .i64 ((rd_T27 x0_2 (ji9)).f1)) ∧ w'.cell? ⟨go14, ((x9_2).toNat * 2), none⟩ = some (.int .i64 ((rd_T27 x0_2 x9_2).f0)) ∧ w'.cell? ⟨go14, ((x9_2).toNat * 2) + 1, none⟩ = some (.int .i64 ((rd_T27 x0_2 x9_2).f1))) (ds := [15, 17]) #[false, false, false, false, false, false, false, false, false, false, false, false, false, false, false, false, false, false] (by kernel_rfl) rfl rfl ⟨hxBG_0, hxBG_1, hxBH_0, hxBH_1⟩ (fun hHeld => ?_); refine with_tabW impl_Jump_220.tab6 impl_Jump_220.bits6 (fun HT_ HW_ => ?_)
            generalize w18.drew = w19 at hz15_0 hz15_1 hw15_1 hy15_0 hy15_1 HO_0 HK HB GG14 HQ20 HQ21 hf14_0 hf14_1 hf15_0 hf15_1 hx14_0 hx14_1 hx15_0 hx15_1 hxBD_0 hxBD_1 hxBE_0 hxBE_1 hxBG_0 hxBG_1 hxBH_0 hxBH_1 hHeld ⊢
            refine puS 0 37 ?_
            refine puS 1 38 ?_
            refine puS 2 39 ?_
            refine puS 3 40 ?_
            refine puS 4 41 ?_
            refine puS 5 42 ?_
            refine puS 6 43 ?_
            refine puS 7 44 ?_
            refine puS 8 45 ?_
            refine puS 10 47 ?_
            refine puS 11 48 ?_
            refine puS 12 49 ?_
            refine tkS 9 46 ?_
            refine tkS 13 50 ?_
            refine puS 14 51 ?_
            refine last_ (i := 15) (N := none) #[true, true, true, true, true, true, true, true, true, true, true, true, true, true, true, true, false, false] rfl rfl (one_of HT_.out (by kernel_rfl)) (by decide) (fun K hK => ?_)
            refine skip_ (w1 := ?_) (by rfl) rfl ?_ ?_
            rotate_left
            ·go_simp
             rfl
            refine hK.out _ _ ?_
            clear hK K
            refine puS 16 52 ?_
            refine last_ (i := 17) (N := none) #[true, true, true, true, true, true, true, true, true, true, true, true, true, true, true, true, true, true] rfl rfl (one_of HT_.out (by kernel_rfl)) (by decide) (fun K hK => ?_)
            refine skip_ (w1 := ?_) (by rfl) rfl ?_ ?_
            rotate_left
            ·go_simp
             rfl
            refine hK.out _ _ ?_
            clear hK K
            refine done_ (done_of HT_.out (by kernel_rfl)) ?_
            try go_wp2
            go_roundg k2
            case measure => have := HK1.out; have := HK2.out; omega
            case rel => exact ⟨(yBJ), (ji9), (by first | rfl | (simp; done) | (simp only [← hji9] <;> (first | rfl | simp)) | (simp [*]; done)), H', ⟨by have := HK1.out; have := HK2.out; omega⟩, ⟨by first | exact Kd.R_up HQ21.out | exact HQ21.out⟩, ⟨by repeat (first | (with_reducible first | exact HK.out | apply Kept.alloc | apply Kept.drewN | apply Kept.drew | refine Kept.setCell ?_ HMgo14.out _ | refine Kept.setCell ?_ HMgo14.out _ | refine Kept.setCell ?_ HMgo14.out _ | refine Kept.setCell ?_ HMgo14.out _) | exact HK.out)⟩, ⟨by exact belS⟩⟩
           ·rw [if_neg c13] at H
            have c13b0 : decide (tBF < 0) = false := decide_eq_false c13
            clear c13
            have H' := Am H
            clear H
            try go_wp2
            have n0_ := Am (Kd.R_drew HO_0.out)
            have n1_ := Am (Kept.drew HK.out)
            have n2_ := Am (below_drew1 HB.out)
            clear HO_0
            clear HK
            clear HB
            have HO_0 := n0_
            have HK := n1_
            have HB := n2_
            clear n0_ n1_ n2_
            obtain ⟨Ao23, co23, eo23⟩ := Kd.R_slice HO_0.out
            (first | subst eo23 | (injection eo23 with f1_ f2_ f3_; have f4_ := f1_.symm; have f5_ := f3_.symm; clear f1_ f2_ f3_; subst f4_; subst f5_))
            have pBD : 0 ≤ (x9_2 : Int) := ofd
            have qBD : x9_2 < (x0_2.length : Int) := ofd
            obtain ⟨adBD, eBD, hxBD_0, hxBD_1⟩ := at_T27 (Kd.R_reads' HO_0.out).2.2 x9_2 pBD qBD
            cases eBD
            replace pBD := eq_true pBD
            replace qBD := eq_true qBD
            have pBE : 0 ≤ ((ji9) : Int) := ofd
            have qBE : (ji9) < (x0_2.length : Int) := ofd
            obtain ⟨adBE, eBE, hxBE_0, hxBE_1⟩ := at_T27 (Kd.R_reads' HO_0.out).2.2 (ji9) pBE qBE
            obtain rfl : adBD = adBE := (by injection eBE)
            replace pBE := eq_true pBE
            replace qBE := eq_true qBE
            refine start_ (n := 17) (S := fun w' => w'.cell? (adBD.add ((x9_2).toNat * 2)) = some (.int .i64 ((rd_T27 x0_2 x9_2).f0)) ∧ w'.cell? ⟨(adBD.add ((x9_2).toNat * 2)).block, (adBD.add ((x9_2).toNat * 2)).off + 1, none⟩ = some (.int .i64 ((rd_T27 x0_2 x9_2).f1)) ∧ w'.cell? (adBD.add (((ji9)).toNat * 2)) = some (.int .i64 ((rd_T27 x0_2 (ji9)).f0)) ∧ w'.cell? ⟨(adBD.add (((ji9)).toNat * 2)).block, (adBD.add (((ji9)).toNat * 2)).off + 1, none⟩ = some (.int .i64 ((rd_T27 x0_2 (ji9)).f1))) (ds := []) bImplJump220_0 (by kernel_rfl) rfl rfl ⟨hxBD_0, hxBD_1, hxBE_0, hxBE_1⟩ (fun hHeld => ?_); refine with_tabW impl_Jump_220.tab4 impl_Jump_220.bits4 (fun HT_ HW_ => ?_)
            generalize wr.drew = w22 at HO_0 HK HB hxBD_0 hxBD_1 hxBE_0 hxBE_1 hHeld ⊢
            refine puS 0 18 ?_
            refine puS 1 19 ?_
            refine puS 2 20 ?_
            refine puS 3 21 ?_
            refine puS 4 22 ?_
            refine puS 5 23 ?_
            refine puS 6 24 ?_
            refine puS 7 25 ?_
            refine puS 9 27 ?_
            refine puS 10 28 ?_
            refine puS 11 29 ?_
            refine puS 12 30 ?_
            refine tkS 8 26 ?_
            refine tkS 13 31 ?_
            refine one_ (i := 14) (N := some 32) bImplJump220_15 rfl rfl (one_of HT_.out (by kernel_rfl)) (by decide) (fun K hK => ?_)
            refine goesVR_ HP.out.eg #[.agg #[.int .i64 ((rd_T27 x0_2 x9_2).f0), .int .i64 ((rd_T27 x0_2 x9_2).f1)], .agg #[.int .i64 ((rd_T27 x0_2 (ji9)).f0), .int .i64 ((rd_T27 x0_2 (ji9)).f1)]] (by rfl) rfl rfl (by (try simp only [List.map_toArray, List.map_cons, List.map_nil]); first | done | (simp only [hji9]; rfl) | rfl | (simp only [List.length_drop, List.length_take]; rfl)) ?_
            with_reducible refine (HP.out.go _ ((rd_T27 x0_2 x9_2).f0) ((rd_T27 x0_2 x9_2).f1) ((rd_T27 x0_2 (ji9)).f0) ((rd_T27 x0_2 (ji9)).f1) tBF A12.out).mono ?_
            rintro e w24 ⟨rfl, hb⟩
            have HS0_ := (hb.cell (World.block_lt_of_cell? _ _ (hHeld.1))).trans (hHeld.1)
            have HS1_ := (hb.cell (World.block_lt_of_cell? _ _ (hHeld.2.1))).trans (hHeld.2.1)
            have HS2_ := (hb.cell (World.block_lt_of_cell? _ _ (hHeld.2.2.1))).trans (hHeld.2.2.1)
            have HS3_ := (hb.cell (World.block_lt_of_cell? _ _ (hHeld.2.2.2))).trans (hHeld.2.2.2)
            refine ⟨_, rfl, ?_⟩
            have n0_ := Am (Kd.R_below (Kd.R_up HO_0.out) hb)
            have n1_ := Am (Kept.below (S := (fun k_ => P0_ k_)) (by repeat (first | (with_reducible first | exact HK.out | apply Kept.alloc | apply Kept.drewN | apply Kept.drew) | exact HK.out)) hb)
            have n2_ := Am (below_step belS hb)
            clear HO_0
            clear HK
            clear HB
            have HO_0 := n0_
            have HK := n1_
            have HB := n2_
            clear n0_ n1_ n2_
            (try clear hb)
            (try clear hb2)
            (try clear hk)
            (try clear hi)
            refine hK.out _ _ ⟨HS0_, HS1_, HS2_, HS3_⟩ (fun hHeld => ?_)
            clear hK K
            refine norm_ (a' := ?_) ?_ ?_
            rotate_left
            ·show Act.put _ (some 32) _ = _
             simp only [Act.put, sA_, sB_, sC_, i64_w, i32_w]
             rfl
            refine puS 15 33 ?_
            refine puS 16 34 ?_
            refine done_ (done_of HT_.out (by kernel_rfl)) ?_
            try go_wp2
            go_roundg k2
            case measure => have := HK1.out; have := HK2.out; omega
            case rel => exact ⟨(x0_2), (wrap64 (x8_1 + 1)), rfS, H', ⟨by have := HK1.out; have := HK2.out; omega⟩, ⟨by first | exact Kd.R_up HO_0.out | exact HO_0.out⟩, ⟨by repeat (first | (with_reducible first | exact HK.out | apply Kept.alloc | apply Kept.drewN | apply Kept.drew) | exact HK.out)⟩, ⟨by exact belS⟩⟩
          ·rw [if_neg c11] at H
           exact absurd H (by simp)
         ·rw [if_neg c10] at H
          exact absurd H (by simp)
        ·rw [if_neg c8] at H
         exact absurd H (by simp)
       ·rw [if_neg c7] at H
        exact absurd H (by simp)
      ·rw [if_neg c6] at H
       have c6b0 : decide (a1 < x9_2) = false := decide_eq_false c6
       clear c6
       have H' := Am H
       clear H
       try go_wp2
       have n0_ := Am (Kd.R_drew HO_0.out)
       have n1_ := Am (Kept.drew HK.out)
       have n2_ := Am (below_drew1 HB.out)
       clear HO_0
       clear HK
       clear HB
       have HO_0 := n0_
       have HK := n1_
       have HB := n2_
       clear n0_ n1_ n2_
       refine start_ (n := 17) (S := fun w' => True) (ds := []) bImplJump220_0 (by kernel_rfl) rfl rfl trivial (fun hHeld => ?_); refine with_tabW impl_Jump_220.tab4 impl_Jump_220.bits4 (fun HT_ HW_ => ?_)
       generalize wr.drew = w25 at HO_0 HK HB hHeld ⊢
       refine puS 0 18 ?_
       refine puS 1 19 ?_
       refine puS 2 20 ?_
       refine puS 3 21 ?_
       refine puN 4 22 ?_
       refine puN 5 23 ?_
       refine puN 6 24 ?_
       refine puN 7 25 ?_
       refine puN 8 26 ?_
       refine puN 9 27 ?_
       refine puN 10 28 ?_
       refine puN 11 29 ?_
       refine puN 12 30 ?_
       refine puN 13 31 ?_
       refine puN 14 32 ?_
       refine puN 15 33 ?_
       refine puS 16 34 ?_
       refine done_ (done_of HT_.out (by kernel_rfl)) ?_
       try go_wp2
       go_roundg k2
       case measure => have := HK1.out; have := HK2.out; omega
       case rel => exact ⟨(x0_2), (wrap64 (x8_1 + 1)), rfS, H', ⟨by have := HK1.out; have := HK2.out; omega⟩, ⟨by first | exact Kd.R_up HO_0.out | exact HO_0.out⟩, ⟨by repeat (first | (with_reducible first | exact HK.out | apply Kept.alloc | apply Kept.drewN | apply Kept.drew) | exact HK.out)⟩, ⟨by exact belS⟩⟩
   ·rw [if_neg c5] at H
    have c5b0 : decide (x8_1 < a2) = false := decide_eq_false c5
    clear c5
    obtain rfl := Option.some.inj H
    go_wp2
    first | go_end0 | ((try simp only [Exit.inBlock, Exit.then]); refine bodyPost_ret (results_none rfl _ _ _) rfl ?_)
    exact ⟨rfE, by (with_reducible repeat (first | apply Kd.R_alloc | apply Kd.R_drewN | apply Kd.R_drew)); exact HO_0.out, by exact belS, by repeat (first | (with_reducible first | exact HK.out | apply Kept.alloc | apply Kept.drewN | apply Kept.drew) | exact HK.out)⟩

end Go.Proofs.Ytkobjjadojpjfaa.Pr
