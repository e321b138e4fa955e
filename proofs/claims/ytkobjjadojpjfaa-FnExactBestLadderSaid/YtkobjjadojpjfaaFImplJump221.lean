-- A text of the machine side, written by wip/gen.py of this repo out of the translation. Not trusted: Lean checks it.
import Derived.Test.YtkobjjadojpjfaaF0
import Derived.Test.YtkobjjadojpjfaaHFvC
namespace Go.Proofs.Ytkobjjadojpjfaa.Pr
open Go.RowKit Go.Proofs.YtkobjjadojpjfaaW.PrintWords Go.Proofs.YtkobjjadojpjfaaW.PrintLast Go.Proofs.YtkobjjadojpjfaaW.PrintMore
attribute [local go_sem] max2_int min2_int max_two min_two max_three min_three max_four min_four   -- for this text's walks alone
set_option linter.unusedVariables false
set_option linter.unusedSimpArgs false

abbrev bImplJump221_0 : Array Bool := #[false, false, false, false, false, false, false, false, false, false, false]
abbrev bImplJump221_10 : Array Bool := #[true, true, true, true, true, true, true, true, true, true, false]
abbrev bImplJump221_12 : Array Bool := #[false, false, false, false, false, false, false, false, false, false, false, false, false, false, false, false, false, false]
abbrev bImplJump221_28 : Array Bool := #[true, true, true, true, true, true, true, true, true, true, true, true, true, true, true, true, false, false]
abbrev bImplJump221_30 : Array Bool := #[true, true, true, true, true, true, true, true, true, true, true, true, true, true, true, true, true, true]
abbrev bImplJump221_31 : Array Bool := #[false, false, false, false, false, false, false, false, false, false, false, false]
abbrev bImplJump221_41 : Array Bool := #[true, true, true, true, true, true, true, true, true, true, false, false]
abbrev bImplJump221_44 : Array Bool := #[false, false, false, false, false, false, false, false, false, false, false, false, false, false]
abbrev bImplJump221_56 : Array Bool := #[true, true, true, true, true, true, true, true, true, true, true, true, false, false]
/-! ### impl_Jump_221: function 221 -/
mutual
def impl_Jump_221.l2 : Nat → List (S27) → Int → FvC → Int → Int → Option ((List (S27)))
 | 0, _, _, _, _, _ => none
 | k + 1, x0, x2, x4, x14, x15 => if x14 < x15 then (if 0 ≤ x2 then (if x2 < (x0.length : Int) then (if 0 ≤ (wrap64 ((IntKind.u64.wrap (wrap64 (x14 + x15))) / 2)) then (if (wrap64 ((IntKind.u64.wrap (wrap64 (x14 + x15))) / 2)) < (x0.length : Int) then ((fvC_.f x4 ((rd_T27 x0 x2).f0) ((rd_T27 x0 x2).f1) ((rd_T27 x0 (wrap64 ((IntKind.u64.wrap (wrap64 (x14 + x15))) / 2))).f0) ((rd_T27 x0 (wrap64 ((IntKind.u64.wrap (wrap64 (x14 + x15))) / 2))).f1)).bind fun tBM => (if tBM < 0 then (impl_Jump_221.l2 k x0 x2 x4 x14 (wrap64 ((IntKind.u64.wrap (wrap64 (x14 + x15))) / 2))) else (impl_Jump_221.l2 k x0 x2 x4 (wrap64 ((wrap64 ((IntKind.u64.wrap (wrap64 (x14 + x15))) / 2)) + 1)) x15))) else (none)) else (none)) else (none)) else (none)) else (impl_Jump_221.l3 k x0 x14 x2)
def impl_Jump_221.l3 : Nat → List (S27) → Int → Int → Option ((List (S27)))
 | 0, _, _, _ => none
 | k + 1, x0, x14, x17 => if x17 > x14 then (if 0 ≤ (wrap64 (x17 - 1)) then (if (wrap64 (x17 - 1)) < (x0.length : Int) then (if 0 ≤ x17 then (if x17 < (x0.length : Int) then (impl_Jump_221.l3 k ((x0.set (x17 : Int).toNat (⟨(rd_T27 x0 (wrap64 (x17 - 1))).f0, (rd_T27 x0 (wrap64 (x17 - 1))).f1⟩ : S27)).set ((wrap64 (x17 - 1)) : Int).toNat (⟨(rd_T27 x0 x17).f0, (rd_T27 x0 x17).f1⟩ : S27)) x14 (wrap64 (x17 - 1))) else (none)) else (none)) else (none)) else (none)) else (some x0)
def impl_Jump_221.f : Nat → List (S27) → Int → Int → Int → FvC → Option ((List (S27)))
 | 0, _, _, _, _, _ => none
 | k + 1, l0, a1, a2, a3, a4 => if (wrap64 (a2 - a1)) = 1 then none else (if (wrap64 (a3 - a2)) = 1 then (impl_Jump_221.l2 k l0 a2 a4 a1 a2) else none)
end
def impl_Jump_221.T17 : Bool × List (List Nat × List Nat) := (true, [([], []), ([], []), ([], []), ([1, 2], [1, 2]), ([3], [3]), ([], []), ([], []), ([5, 6], [5, 6]), ([7], [7]), ([0, 4, 8], [0, 4, 8]), ([9], [9]), ([10], [10])])
def impl_Jump_221.B17 : List Nat := [0, 0, 0, 6, 14, 0, 0, 96, 224, 511, 1023, 2047]
theorem impl_Jump_221.tab17 : rtab .any (opsOf Try.f221 17) = impl_Jump_221.T17 := by kernel_rfl
theorem impl_Jump_221.bits17 : waitsOk impl_Jump_221.T17.2 impl_Jump_221.B17 = true := by kernel_rfl
def impl_Jump_221.T23 : Bool × List (List Nat × List Nat) := (true, [([], []), ([], []), ([], []), ([], []), ([3], [3]), ([], []), ([], []), ([6], [6]), ([5, 7], [5, 7]), ([8], [8]), ([], []), ([], []), ([10, 11], [10, 11]), ([12], [12]), ([0, 1, 0, 1, 5, 6, 7, 8, 9, 13], [0, 1]), ([14, 9, 0, 1, 5, 6, 7, 8, 9, 13], [9, 14]), ([2, 4, 0, 1, 2, 3, 4, 5, 6, 7, 8, 9, 10, 11, 12, 13, 14, 15], [2, 4]), ([16, 13, 15, 0, 1, 2, 3, 4, 5, 6, 7, 8, 9, 10, 11, 12, 13, 14, 15], [13, 16])])
def impl_Jump_221.B23 : List Nat := [0, 0, 0, 0, 8, 0, 0, 64, 224, 480, 0, 0, 3072, 7168, 16355, 32739, 65535, 131071]
theorem impl_Jump_221.tab23 : rtab .any (opsOf Try.f221 23) = impl_Jump_221.T23 := by kernel_rfl
theorem impl_Jump_221.bits23 : waitsOk impl_Jump_221.T23.2 impl_Jump_221.B23 = true := by kernel_rfl
set_option maxHeartbeats 8000000 in
set_option maxRecDepth 100000 in
theorem impl_Jump_221.calls (k : Nat) : ∀ (P0_ : Nat → Prop) (u9000_ : Value) (l0 : List (S27)) (a1 : Int) (a2 : Int) (a3 : Int) (a4 : FvC) (r : List (S27)) (w0 w : World) (hB : Below w0.heap.size w0 w) (ho0 : Kd.R k27 27 w w0.heap.size P0_ u9000_ l0) (h : impl_Jump_221.f k l0 a1 a2 a3 a4 = some r) (hp : FvC.Ok a4),
  Calls Try.prog 221 #[u9000_, .int .i64 a1, .int .i64 a2, .int .i64 a3, FvC.v a4] w fun e w' => e = .returned (.tuple #[]) ∧ Kd.R k27 27 w' w0.heap.size (fun k_ => (P0_ k_ ∨ w.heap.size ≤ k_)) u9000_ r ∧ Below w0.heap.size w0 w' ∧ Kept w w' (fun k_ => P0_ k_) := by
 induction k using Nat.strongRecOn with
 | _ k ih =>
 intro P0_ u9000_ l0 a1 a2 a3 a4 r w0 w hB ho0 h hp
 have HP := Aside0.mk hp
 clear hp
 cases k with
 | zero => exact absurd h (by simp [impl_Jump_221.f])
 | succ k =>
 simp only [impl_Jump_221.f] at h
 have hu27 := Try.underlying27
 have HO0 := Am (show Kd.R k27 27 w w0.heap.size (fun k_ => (P0_ k_ ∨ w.heap.size ≤ k_)) u9000_ l0 from Kd.R_mono ho0 (fun k_ hk => (.inl hk)))
 have HK := Am (Kept.refl w (fun k_ => P0_ k_))
 have HW0 := Am hB.size
 have HB := Am hB
 clear hB
 have H : (if (wrap64 (a2 - a1)) = 1 then none else (if (wrap64 (a3 - a2)) = 1 then (impl_Jump_221.l2 k l0 a2 a4 a1 a2) else none)) = some r := h
 clear h
 by_cases c6 : (wrap64 (a2 - a1)) = 1
 ·rw [if_pos c6] at H
  exact absurd H (by simp)
 ·rw [if_neg c6] at H
  have c6b0 : ((wrap64 (a2 - a1)) == 1) = false := beq_eq_false_iff_ne.mpr c6
  have c6b1 : ((wrap64 (a2 - a1)) != 1) = true := bne_iff_ne.mpr c6
  by_cases c33 : (wrap64 (a3 - a2)) = 1
  ·rw [if_pos c33] at H
   have c33b0 : ((wrap64 (a3 - a2)) == 1) = true := beq_iff_eq.mpr c33
   have c33b1 : ((wrap64 (a3 - a2)) != 1) = false := bne_eq_false_iff_eq.mpr c33
   clear c33
   have H' := Am H
   clear H
   go_enter Try.func221, Try.ntmps221
   go_wp2
   (try simp only [Act.put, sA_, sB_, sC_])
   go_loopg [14, 15] k (fun kq v14 v15 w' => ∃ (x14_1 : Int) (x15_1 : Int), v14 = .int .i64 x14_1 ∧ v15 = .int .i64 x15_1 ∧ Aside0 (impl_Jump_221.l2 kq l0 a2 a4 x14_1 x15_1 = some r) ∧ Aside0 (kq ≤ k) ∧ Aside0 (Kd.R k27 27 w' w0.heap.size (fun k_ => (P0_ k_ ∨ w.heap.size ≤ k_)) u9000_ l0) ∧ Aside0 (Kept w w' (fun k_ => P0_ k_)) ∧ Aside0 (Below w0.heap.size w0 w'))
   case atStart => exact ⟨(a1), (a2), rfS, rfS, H', ⟨Nat.le_refl _⟩, ⟨by first | exact Kd.R_up HO0.out | exact HO0.out⟩, ⟨by repeat (first | (with_reducible first | exact HK.out | apply Kept.alloc | apply Kept.drewN | apply Kept.drew) | exact HK.out)⟩, ⟨by exact belS⟩⟩
   case round =>
    clear H'
    try clear c6
    try clear c6b0
    try clear c6b1
    try clear c33
    try clear c33b0
    try clear c33b1
    obtain ⟨x14_1, x15_1, rfl, rfl, HA, HK1, HO_0, HK, HB⟩ := hrel
    cases gk with
    | zero => exact absurd HA.out (by simp [impl_Jump_221.l2])
    | succ k1 =>
     have H := HA.out
     clear HA
     simp only [impl_Jump_221.l2] at H
     by_cases c34 : x14_1 < x15_1
     ·rw [if_pos c34] at H
      have c34b0 : decide (x14_1 < x15_1) = true := decide_eq_true c34
      clear c34
      by_cases c35 : 0 ≤ a2
      ·rw [if_pos c35] at H
       have c35b0 : decide (0 ≤ a2) = true := decide_eq_true c35
       clear c35
       by_cases c36 : a2 < (l0.length : Int)
       ·rw [if_pos c36] at H
        have c36b0 : decide (a2 < (l0.length : Int)) = true := decide_eq_true c36
        clear c36
        obtain ⟨ji37, hji37⟩ : ∃ j_ : Int, (wrap64 ((IntKind.u64.wrap (wrap64 (x14_1 + x15_1))) / 2)) = j_ := ⟨_, rfl⟩
        replace H : (if 0 ≤ (ji37) then (if (ji37) < (l0.length : Int) then ((fvC_.f a4 ((rd_T27 l0 a2).f0) ((rd_T27 l0 a2).f1) ((rd_T27 l0 (ji37)).f0) ((rd_T27 l0 (ji37)).f1)).bind fun tBM => (if tBM < 0 then (impl_Jump_221.l2 k1 l0 a2 a4 x14_1 ji37) else (impl_Jump_221.l2 k1 l0 a2 a4 (wrap64 ((ji37) + 1)) x15_1))) else (none)) else (none)) = some r := by first | (rw [hji37] at H; exact H) | (simp only [hji37] at H ⊢; exact H)
        have hji37w : (IntKind.i64.wrap ((IntKind.u64.wrap (wrap64 (x14_1 + x15_1))) / 2)) = ji37 := (i64_w _).trans hji37
        by_cases c38 : 0 ≤ (ji37)
        ·rw [if_pos c38] at H
         have c38b0 : decide (0 ≤ (ji37)) = true := decide_eq_true c38
         clear c38
         by_cases c39 : (ji37) < (l0.length : Int)
         ·rw [if_pos c39] at H
          have c39b0 : decide ((ji37) < (l0.length : Int)) = true := decide_eq_true c39
          clear c39
          replace H := Option.bind_eq_some_iff.mp H
          obtain ⟨tBM, A400, H⟩ := H
          replace H : (if tBM < 0 then (impl_Jump_221.l2 k1 l0 a2 a4 x14_1 ji37) else (impl_Jump_221.l2 k1 l0 a2 a4 (wrap64 ((ji37) + 1)) x15_1)) = some r := H
          have A40 := Am A400
          clear A400
          by_cases c41 : tBM < 0
          ·rw [if_pos c41] at H
           have c41b0 : decide (tBM < 0) = true := decide_eq_true c41
           clear c41
           have H' := Am H
           clear H
           try go_wp2
           have n0_ := Am (Kd.R_drew HO_0.out)
           have n1_ := Am (Kept.drew HK.out)
           have n2_ := Am (below_drew1 HB.out)
           clear HO_0
           clear HK
           clear HB
           have HO_0 := n0_
           have HK := n1_
           have HB := n2_
           clear n0_ n1_ n2_
           obtain ⟨Ao43, co43, eo43⟩ := Kd.R_slice HO_0.out
           (first | subst eo43 | (injection eo43 with f1_ f2_ f3_; have f4_ := f1_.symm; have f5_ := f3_.symm; clear f1_ f2_ f3_; subst f4_; subst f5_))
           have pBK : 0 ≤ (a2 : Int) := ofd
           have qBK : a2 < (l0.length : Int) := ofd
           obtain ⟨adBK, eBK, hxBK_0, hxBK_1⟩ := at_T27 (Kd.R_reads' HO_0.out).2.2 a2 pBK qBK
           cases eBK
           replace pBK := eq_true pBK
           replace qBK := eq_true qBK
           have pBL : 0 ≤ ((ji37) : Int) := ofd
           have qBL : (ji37) < (l0.length : Int) := ofd
           obtain ⟨adBL, eBL, hxBL_0, hxBL_1⟩ := at_T27 (Kd.R_reads' HO_0.out).2.2 (ji37) pBL qBL
           obtain rfl : adBK = adBL := (by injection eBL)
           replace pBL := eq_true pBL
           replace qBL := eq_true qBL
           refine start_ (n := 12) (S := fun w' => w'.cell? (adBK.add ((a2).toNat * 2)) = some (.int .i64 ((rd_T27 l0 a2).f0)) ∧ w'.cell? ⟨(adBK.add ((a2).toNat * 2)).block, (adBK.add ((a2).toNat * 2)).off + 1, none⟩ = some (.int .i64 ((rd_T27 l0 a2).f1)) ∧ w'.cell? (adBK.add (((ji37)).toNat * 2)) = some (.int .i64 ((rd_T27 l0 (ji37)).f0)) ∧ w'.cell? ⟨(adBK.add (((ji37)).toNat * 2)).block, (adBK.add (((ji37)).toNat * 2)).off + 1, none⟩ = some (.int .i64 ((rd_T27 l0 (ji37)).f1))) (ds := []) bImplJump221_31 (by kernel_rfl) rfl rfl ⟨hxBK_0, hxBK_1, hxBL_0, hxBL_1⟩ (fun hHeld => ?_); refine with_tabW impl_Jump_221.tab17 impl_Jump_221.bits17 (fun HT_ HW_ => ?_)
           generalize wr.drew = w42 at HO_0 HK HB hxBK_0 hxBK_1 hxBL_0 hxBL_1 hHeld ⊢
           refine puS 0 92 ?_
           refine puS 1 93 ?_
           refine puS 2 94 ?_
           refine puS 3 95 ?_
           refine puS 5 97 ?_
           refine puS 6 98 ?_
           refine puS 7 99 ?_
           refine tkS 4 96 ?_
           refine tkS 8 100 ?_
           refine one_ (i := 9) (N := some 101) bImplJump221_41 rfl rfl (one_of HT_.out (by kernel_rfl)) (by decide) (fun K hK => ?_)
           refine goesVR_ HP.out.eg #[.agg #[.int .i64 ((rd_T27 l0 a2).f0), .int .i64 ((rd_T27 l0 a2).f1)], .agg #[.int .i64 ((rd_T27 l0 (ji37)).f0), .int .i64 ((rd_T27 l0 (ji37)).f1)]] (by rfl) rfl rfl (by (try simp only [List.map_toArray, List.map_cons, List.map_nil]); first | done | (simp only [hji37]; rfl) | rfl | (simp only [List.length_drop, List.length_take]; rfl)) ?_
           with_reducible refine (HP.out.go _ ((rd_T27 l0 a2).f0) ((rd_T27 l0 a2).f1) ((rd_T27 l0 (ji37)).f0) ((rd_T27 l0 (ji37)).f1) tBM A40.out).mono ?_
           rintro e w44 ⟨rfl, hb⟩
           have HS0_ := (hb.cell (World.block_lt_of_cell? _ _ (hHeld.1))).trans (hHeld.1)
           have HS1_ := (hb.cell (World.block_lt_of_cell? _ _ (hHeld.2.1))).trans (hHeld.2.1)
           have HS2_ := (hb.cell (World.block_lt_of_cell? _ _ (hHeld.2.2.1))).trans (hHeld.2.2.1)
           have HS3_ := (hb.cell (World.block_lt_of_cell? _ _ (hHeld.2.2.2))).trans (hHeld.2.2.2)
           refine ⟨_, rfl, ?_⟩
           have n0_ := Am (Kd.R_below (Kd.R_up HO_0.out) hb)
           have n1_ := Am (Kept.below (S := (fun k_ => P0_ k_)) (by repeat (first | (with_reducible first | exact HK.out | apply Kept.alloc | apply Kept.drewN | apply Kept.drew) | exact HK.out)) hb)
           have n2_ := Am (below_step belS hb)
           clear HO_0
           clear HK
           clear HB
           have HO_0 := n0_
           have HK := n1_
           have HB := n2_
           clear n0_ n1_ n2_
           (try clear hb)
           (try clear hb2)
           (try clear hk)
           (try clear hi)
           refine hK.out _ _ ⟨HS0_, HS1_, HS2_, HS3_⟩ (fun hHeld => ?_)
           clear hK K
           refine norm_ (a' := ?_) ?_ ?_
           rotate_left
           ·show Act.put _ (some 101) _ = _
            simp only [Act.put, sA_, sB_, sC_, i64_w, i32_w]
            rfl
           refine puS 10 102 ?_
           refine puS 11 103 ?_
           refine done_ (done_of HT_.out (by kernel_rfl)) ?_
           try go_wp2
           go_roundg k1
           case measure => have := HK1.out; omega
           case rel => exact ⟨(x14_1), (ji37), rfS, (by first | rfl | (simp; done) | (simp only [← hji37] <;> (first | rfl | simp)) | (simp [*]; done)), H', ⟨by have := HK1.out; omega⟩, ⟨by first | exact Kd.R_up HO_0.out | exact HO_0.out⟩, ⟨by repeat (first | (with_reducible first | exact HK.out | apply Kept.alloc | apply Kept.drewN | apply Kept.drew) | exact HK.out)⟩, ⟨by exact belS⟩⟩
          ·rw [if_neg c41] at H
           have c41b0 : decide (tBM < 0) = false := decide_eq_false c41
           clear c41
           have H' := Am H
           clear H
           try go_wp2
           have n0_ := Am (Kd.R_drew HO_0.out)
           have n1_ := Am (Kept.drew HK.out)
           have n2_ := Am (below_drew1 HB.out)
           clear HO_0
           clear HK
           clear HB
           have HO_0 := n0_
           have HK := n1_
           have HB := n2_
           clear n0_ n1_ n2_
           obtain ⟨Ao46, co46, eo46⟩ := Kd.R_slice HO_0.out
           (first | subst eo46 | (injection eo46 with f1_ f2_ f3_; have f4_ := f1_.symm; have f5_ := f3_.symm; clear f1_ f2_ f3_; subst f4_; subst f5_))
           have pBK : 0 ≤ (a2 : Int) := ofd
           have qBK : a2 < (l0.length : Int) := ofd
           obtain ⟨adBK, eBK, hxBK_0, hxBK_1⟩ := at_T27 (Kd.R_reads' HO_0.out).2.2 a2 pBK qBK
           cases eBK
           replace pBK := eq_true pBK
           replace qBK := eq_true qBK
           have pBL : 0 ≤ ((ji37) : Int) := ofd
           have qBL : (ji37) < (l0.length : Int) := ofd
           obtain ⟨adBL, eBL, hxBL_0, hxBL_1⟩ := at_T27 (Kd.R_reads' HO_0.out).2.2 (ji37) pBL qBL
           obtain rfl : adBK = adBL := (by injection eBL)
           replace pBL := eq_true pBL
           replace qBL := eq_true qBL
           refine start_ (n := 12) (S := fun w' => w'.cell? (adBK.add ((a2).toNat * 2)) = some (.int .i64 ((rd_T27 l0 a2).f0)) ∧ w'.cell? ⟨(adBK.add ((a2).toNat * 2)).block, (adBK.add ((a2).toNat * 2)).off + 1, none⟩ = some (.int .i64 ((rd_T27 l0 a2).f1)) ∧ w'.cell? (adBK.add (((ji37)).toNat * 2)) = some (.int .i64 ((rd_T27 l0 (ji37)).f0)) ∧ w'.cell? ⟨(adBK.add (((ji37)).toNat * 2)).block, (adBK.add (((ji37)).toNat * 2)).off + 1, none⟩ = some (.int .i64 ((rd_T27 l0 (ji37)).f1))) (ds := []) bImplJump221_31 (by kernel_rfl) rfl rfl ⟨hxBK_0, hxBK_1, hxBL_0, hxBL_1⟩ (fun hHeld => ?_); refine with_tabW impl_Jump_221.tab17 impl_Jump_221.bits17 (fun HT_ HW_ => ?_)
           generalize wr.drew = w45 at HO_0 HK HB hxBK_0 hxBK_1 hxBL_0 hxBL_1 hHeld ⊢
           refine puS 0 92 ?_
           refine puS 1 93 ?_
           refine puS 2 94 ?_
           refine puS 3 95 ?_
           refine puS 5 97 ?_
           refine puS 6 98 ?_
           refine puS 7 99 ?_
           refine tkS 4 96 ?_
           refine tkS 8 100 ?_
           refine one_ (i := 9) (N := some 101) bImplJump221_41 rfl rfl (one_of HT_.out (by kernel_rfl)) (by decide) (fun K hK => ?_)
           refine goesVR_ HP.out.eg #[.agg #[.int .i64 ((rd_T27 l0 a2).f0), .int .i64 ((rd_T27 l0 a2).f1)], .agg #[.int .i64 ((rd_T27 l0 (ji37)).f0), .int .i64 ((rd_T27 l0 (ji37)).f1)]] (by rfl) rfl rfl (by (try simp only [List.map_toArray, List.map_cons, List.map_nil]); first | done | (simp only [hji37]; rfl) | rfl | (simp only [List.length_drop, List.length_take]; rfl)) ?_
           with_reducible refine (HP.out.go _ ((rd_T27 l0 a2).f0) ((rd_T27 l0 a2).f1) ((rd_T27 l0 (ji37)).f0) ((rd_T27 l0 (ji37)).f1) tBM A40.out).mono ?_
           rintro e w47 ⟨rfl, hb⟩
           have HS0_ := (hb.cell (World.block_lt_of_cell? _ _ (hHeld.1))).trans (hHeld.1)
           have HS1_ := (hb.cell (World.block_lt_of_cell? _ _ (hHeld.2.1))).trans (hHeld.2.1)
           have HS2_ := (hb.cell (World.block_lt_of_cell? _ _ (hHeld.2.2.1))).trans (hHeld.2.2.1)
           have HS3_ := (hb.cell (World.block_lt_of_cell? _ _ (hHeld.2.2.2))).trans (hHeld.2.2.2)
           refine ⟨_, rfl, ?_⟩
           have n0_ := Am (Kd.R_below (Kd.R_up HO_0.out) hb)
           have n1_ := Am (Kept.below (S := (fun k_ => P0_ k_)) (by repeat (first | (with_reducible first | exact HK.out | apply Kept.alloc | apply Kept.drewN | apply Kept.drew) | exact HK.out)) hb)
           have n2_ := Am (below_step belS hb)
           clear HO_0
           clear HK
           clear HB
           have HO_0 := n0_
           have HK := n1_
           have HB := n2_
           clear n0_ n1_ n2_
           (try clear hb)
           (try clear hb2)
           (try clear hk)
           (try clear hi)
           refine hK.out _ _ ⟨HS0_, HS1_, HS2_, HS3_⟩ (fun hHeld => ?_)
           clear hK K
           refine norm_ (a' := ?_) ?_ ?_
           rotate_left
           ·show Act.put _ (some 101) _ = _
            simp only [Act.put, sA_, sB_, sC_, i64_w, i32_w]
            rfl
           refine puS 10 102 ?_
           refine puS 11 103 ?_
           refine done_ (done_of HT_.out (by kernel_rfl)) ?_
           try go_wp2
           go_roundg k1
           case measure => have := HK1.out; omega
           case rel => exact ⟨(wrap64 ((ji37) + 1)), (x15_1), (by first | rfl | (simp; done) | (simp only [← hji37] <;> (first | rfl | simp)) | (simp [*]; done)), rfS, H', ⟨by have := HK1.out; omega⟩, ⟨by first | exact Kd.R_up HO_0.out | exact HO_0.out⟩, ⟨by repeat (first | (with_reducible first | exact HK.out | apply Kept.alloc | apply Kept.drewN | apply Kept.drew) | exact HK.out)⟩, ⟨by exact belS⟩⟩
         ·rw [if_neg c39] at H
          exact absurd H (by simp)
        ·rw [if_neg c38] at H
         exact absurd H (by simp)
       ·rw [if_neg c36] at H
        exact absurd H (by simp)
      ·rw [if_neg c35] at H
       exact absurd H (by simp)
     ·rw [if_neg c34] at H
      have c34b0 : decide (x14_1 < x15_1) = false := decide_eq_false c34
      clear c34
      have H' := Am H
      clear H
      go_wp2
      (try simp only [Act.put, sA_, sB_, sC_])
      go_loopg [17] k1 (fun kq v17 w' => ∃ (x0_2 : List (S27)) (x17_2 : Int), v17 = .int .i64 x17_2 ∧ Aside0 (impl_Jump_221.l3 kq x0_2 x14_1 x17_2 = some r) ∧ Aside0 (kq ≤ k1) ∧ Aside0 (Kd.R k27 27 w' w0.heap.size (fun k_ => (P0_ k_ ∨ w.heap.size ≤ k_)) u9000_ x0_2) ∧ Aside0 (Kept w w' (fun k_ => P0_ k_)) ∧ Aside0 (Below w0.heap.size w0 w'))
      case atStart => exact ⟨(l0), (a2), rfS, H', ⟨Nat.le_refl _⟩, ⟨by first | exact Kd.R_up HO_0.out | exact HO_0.out⟩, ⟨by repeat (first | (with_reducible first | exact HK.out | apply Kept.alloc | apply Kept.drewN | apply Kept.drew) | exact HK.out)⟩, ⟨by exact belS⟩⟩
      case round =>
       clear H'
       try clear c6
       try clear c6b0
       try clear c6b1
       try clear c33
       try clear c33b0
       try clear c33b1
       try clear c34
       try clear c34b0
       obtain ⟨x0_2, x17_2, rfl, HA, HK2, HO_0, HK, HB⟩ := hrel
       cases gk with
       | zero => exact absurd HA.out (by simp [impl_Jump_221.l3])
       | succ k2 =>
        have H := HA.out
        clear HA
        simp only [impl_Jump_221.l3] at H
        by_cases c48 : x17_2 > x14_1
        ·rw [if_pos c48] at H
         have c48b0 : decide (x14_1 < x17_2) = true := decide_eq_true c48
         clear c48
         obtain ⟨ji49, hji49⟩ : ∃ j_ : Int, (wrap64 (x17_2 - 1)) = j_ := ⟨_, rfl⟩
         replace H : (if 0 ≤ (ji49) then (if (ji49) < (x0_2.length : Int) then (if 0 ≤ x17_2 then (if x17_2 < (x0_2.length : Int) then (impl_Jump_221.l3 k2 ((x0_2.set (x17_2 : Int).toNat (⟨(rd_T27 x0_2 (ji49)).f0, (rd_T27 x0_2 (ji49)).f1⟩ : S27)).set ((ji49) : Int).toNat (⟨(rd_T27 x0_2 x17_2).f0, (rd_T27 x0_2 x17_2).f1⟩ : S27)) x14_1 ji49) else (none)) else (none)) else (none)) else (none)) = some r := by first | (rw [hji49] at H; exact H) | (simp only [hji49] at H ⊢; exact H)
         have hji49w : (IntKind.i64.wrap (x17_2 - 1)) = ji49 := (i64_w _).trans hji49
         by_cases c50 : 0 ≤ (ji49)
         ·rw [if_pos c50] at H
          have c50b0 : decide (0 ≤ (ji49)) = true := decide_eq_true c50
          clear c50
          by_cases c51 : (ji49) < (x0_2.length : Int)
          ·rw [if_pos c51] at H
           have c51b0 : decide ((ji49) < (x0_2.length : Int)) = true := decide_eq_true c51
           clear c51
           by_cases c52 : 0 ≤ x17_2
           ·rw [if_pos c52] at H
            have c52b0 : decide (0 ≤ x17_2) = true := decide_eq_true c52
            clear c52
            by_cases c53 : x17_2 < (x0_2.length : Int)
            ·rw [if_pos c53] at H
             have c53b0 : decide (x17_2 < (x0_2.length : Int)) = true := decide_eq_true c53
             clear c53
             obtain ⟨yBP, hyBP⟩ : ∃ y_ : List (S27), y_ = (x0_2.set (x17_2 : Int).toNat (⟨(rd_T27 x0_2 (ji49)).f0, (rd_T27 x0_2 (ji49)).f1⟩ : S27)) := ⟨_, rfl⟩
             replace H : (impl_Jump_221.l3 k2 (yBP.set ((ji49) : Int).toNat (⟨(rd_T27 x0_2 x17_2).f0, (rd_T27 x0_2 x17_2).f1⟩ : S27)) x14_1 ji49) = some r := by first | (rw [hyBP]; with_reducible exact H) | (have H2_ := (Option.bind_some _ _).symm.trans H; rw [hyBP]; with_reducible exact H2_) | (have H2_ := (Option.bind_some _ _).symm.trans H; with_reducible exact H2_) | with_reducible exact H | (rw [hyBP]; exact H) | exact H
             have NyBP := Am hyBP
             clear hyBP
             obtain ⟨yBQ, hyBQ⟩ : ∃ y_ : List (S27), y_ = (yBP.set ((ji49) : Int).toNat (⟨(rd_T27 x0_2 x17_2).f0, (rd_T27 x0_2 x17_2).f1⟩ : S27)) := ⟨_, rfl⟩
             replace H : (impl_Jump_221.l3 k2 yBQ x14_1 ji49) = some r := by first | (rw [hyBQ]; with_reducible exact H) | (have H2_ := (Option.bind_some _ _).symm.trans H; rw [hyBQ]; with_reducible exact H2_) | (have H2_ := (Option.bind_some _ _).symm.trans H; with_reducible exact H2_) | with_reducible exact H | (rw [hyBQ]; exact H) | exact H
             have NyBQ := Am hyBQ
             clear hyBQ
             have H' := Am H
             clear H
             try go_wp2
             have n0_ := Am (Kd.R_drew HO_0.out)
             have n1_ := Am (Kept.drew HK.out)
             have n2_ := Am (below_drew1 HB.out)
             clear HO_0
             clear HK
             clear HB
             have HO_0 := n0_
             have HK := n1_
             have HB := n2_
             clear n0_ n1_ n2_
             obtain ⟨Ao57, co57, eo57⟩ := Kd.R_slice HO_0.out
             (first | subst eo57 | (injection eo57 with f1_ f2_ f3_; have f4_ := f1_.symm; have f5_ := f3_.symm; clear f1_ f2_ f3_; subst f4_; subst f5_))
             have pBN : 0 ≤ ((ji49) : Int) := ofd
             have qBN : (ji49) < (x0_2.length : Int) := ofd
             obtain ⟨adBN, eBN, hxBN_0, hxBN_1⟩ := at_T27 (Kd.R_reads' HO_0.out).2.2 (ji49) pBN qBN
             cases eBN
             replace pBN := eq_true pBN
             replace qBN := eq_true qBN
             have pBO : 0 ≤ (x17_2 : Int) := ofd
             have qBO : x17_2 < (x0_2.length : Int) := ofd
             obtain ⟨adBO, eBO, hxBO_0, hxBO_1⟩ := at_T27 (Kd.R_reads' HO_0.out).2.2 x17_2 pBO qBO
             obtain rfl : adBN = adBO := (by injection eBO)
             replace pBO := eq_true pBO
             replace qBO := eq_true qBO
             have p54 : 0 ≤ (x17_2 : Int) := ofd
             have q54 : (x17_2 : Int) < ((x0_2.length : Int) : Int) := ofd
             obtain ⟨go54, co54, eo54, gb54, gl54, cl54, HG54⟩ := Kd.R_form HO_0.out (by omega)
             (first | cases eo54 | (injection eo54 with ea_ en_ ec_; (first | subst ea_ | (injection ea_ with ea_; subst ea_)); subst ec_; clear en_))
             have GB54 := Am gb54
             have GG54 := Am HG54
             clear gb54 gl54 HG54
             have HMgo54 := Am (show (P0_ go54 ∨ w.heap.size ≤ go54) from (HO_0.out.1 _ rfl))
             (first | simp only [add_plain] at hxBN_0 | skip)
             (first | simp only [add_plain] at hxBN_1 | skip)
             (first | simp only [add_plain] at hxBO_0 | skip)
             (first | simp only [add_plain] at hxBO_1 | skip)
             obtain ⟨ce54, hcl54, hM54, hcc54, hfr54⟩ := Kd.R_elem HO_0.out z27 (x17_2 : Int) p54 q54
             obtain rfl := k27_openM hM54
             have hx54_0 : World.cell? _ ⟨go54, (x17_2 : Int).toNat * 2, none⟩ = some (.int .i64 ((rd_T27 x0_2 x17_2).f0)) := hcc54 0 _ rfl
             have hx54_1 : World.cell? _ ⟨go54, (x17_2 : Int).toNat * 2 + 1, none⟩ = some (.int .i64 ((rd_T27 x0_2 x17_2).f1)) := hcc54 1 _ rfl
             have hf54_0 : World.frozen? _ ⟨go54, (x17_2 : Int).toNat * 2, none⟩ = false := hfr54 0
             have hf54_1 : World.frozen? _ ⟨go54, (x17_2 : Int).toNat * 2 + 1, none⟩ = false := hfr54 1
             clear hcl54 hcc54 hfr54 hM54
             replace p54 := eq_true p54
             replace q54 := eq_true q54
             obtain ⟨ce58, hcl58, hM58, hcc58, hfr58⟩ := Kd.R_elem HO_0.out z27 (x17_2 : Int) ofd (by have h_ : (x17_2 : Int) < ((x0_2.length : Int) : Int) := ofd; first | exact h_ | (have e_ := (Kd.R_reads' HO_0.out).1; omega) | simpa using h_)
             obtain rfl := k27_openM hM58
             have HP58 := (Kd.R_seg HO_0.out (x17_2 : Int) ofd (by have h_ : (x17_2 : Int) < ((x0_2.length : Int) : Int) := ofd; first | exact h_ | (have e_ := (Kd.R_reads' HO_0.out).1; omega) | simpa using h_) (seg := [.int .i64 ((rd_T27 x0_2 (ji49)).f0), .int .i64 ((rd_T27 x0_2 (ji49)).f1)]) (j := 0) hcl58 hcc58 (show 2 ≤ 2 from by decide) (x' := (⟨(rd_T27 x0_2 (ji49)).f0, (rd_T27 x0_2 (ji49)).f1⟩ : S27)) (k27_mkM _ _ _ (⟨(rd_T27 x0_2 (ji49)).f0, (rd_T27 x0_2 (ji49)).f1⟩ : S27) ) (fun _ hk => hk)).1
             rw [← NyBP.out] at HP58
             have HQ58 := Am HP58
             clear hcl58 hcc58 hfr58 hM58 HP58
             have p55 : 0 ≤ ((ji49) : Int) := ofd
             have q55 : ((ji49) : Int) < ((x0_2.length : Int) : Int) := ofd
             obtain ⟨ce55, hcl55, hM55, hcc55, hfr55⟩ := Kd.R_elem HQ58.out z27 ((ji49) : Int) p55 q55
             obtain rfl := k27_openM hM55
             have hx55_0 : World.cell? _ ⟨go54, ((ji49) : Int).toNat * 2, none⟩ = some (.int .i64 ((rd_T27 yBP (ji49)).f0)) := hcc55 0 _ rfl
             have hx55_1 : World.cell? _ ⟨go54, ((ji49) : Int).toNat * 2 + 1, none⟩ = some (.int .i64 ((rd_T27 yBP (ji49)).f1)) := hcc55 1 _ rfl
             have hf55_0 : World.frozen? _ ⟨go54, ((ji49) : Int).toNat * 2, none⟩ = false := hfr55 0
             have hf55_1 : World.frozen? _ ⟨go54, ((ji49) : Int).toNat * 2 + 1, none⟩ = false := hfr55 1
             have hz55_0 := set2_c0 (i := (x17_2 : Int).toNat) (j := ((ji49) : Int).toNat) hx55_0
             have hz55_1 := set2_c1 (i := (x17_2 : Int).toNat) (j := ((ji49) : Int).toNat) hx55_1
             have hw55_1 := set2_d1 (i := (x17_2 : Int).toNat) (j := ((ji49) : Int).toNat) hx55_1
             have hy55_0 := set2_f hf55_0
             have hy55_1 := set2_f hf55_1
             clear hcl55 hcc55 hfr55 hM55
             replace p55 := eq_true p55
             replace q55 := eq_true q55
             obtain ⟨ce59, hcl59, hM59, hcc59, hfr59⟩ := Kd.R_elem HQ58.out z27 ((ji49) : Int) ofd (by have h_ : ((ji49) : Int) < ((x0_2.length : Int) : Int) := ofd; first | exact h_ | (have e_ := (Kd.R_reads' HO_0.out).1; omega) | simpa using h_)
             obtain rfl := k27_openM hM59
             have HP59 := (Kd.R_seg HQ58.out ((ji49) : Int) ofd (by have h_ : ((ji49) : Int) < ((x0_2.length : Int) : Int) := ofd; first | exact h_ | (have e_ := (Kd.R_reads' HO_0.out).1; omega) | simpa using h_) (seg := [.int .i64 ((rd_T27 x0_2 x17_2).f0), .int .i64 ((rd_T27 x0_2 x17_2).f1)]) (j := 0) hcl59 hcc59 (show 2 ≤ 2 from by decide) (x' := (⟨(rd_T27 x0_2 x17_2).f0, (rd_T27 x0_2 x17_2).f1⟩ : S27)) (k27_mkM _ _ _ (⟨(rd_T27 x0_2 x17_2).f0, (rd_T27 x0_2 x17_2).f1⟩ : S27) ) (fun _ hk => hk)).1
             rw [← NyBQ.out] at HP59
             have HQ59 := Am HP59
             clear hcl59 hcc59 hfr59 hM59 HP59
             refine start_ (n := 18) (S := fun w' => w'.cell? ⟨go54, (((ji49)).toNat * 2), none⟩ = some (.int .i64 ((rd_T27 x0_2 (ji49)).f0)) ∧ w'.cell? ⟨go54, (((ji49)).toNat * 2) + 1, none⟩ = some (.int .i64 ((rd_T27 x0_2 (ji49)).f1)) ∧ w'.cell? ⟨go54, ((x17_2).toNat * 2), none⟩ = some (.int .i64 ((rd_T27 x0_2 x17_2).f0)) ∧ w'.cell? ⟨go54, ((x17_2).toNat * 2) + 1, none⟩ = some (.int .i64 ((rd_T27 x0_2 x17_2).f1))) (ds := [15, 17]) bImplJump221_12 (by kernel_rfl) rfl rfl ⟨hxBN_0, hxBN_1, hxBO_0, hxBO_1⟩ (fun hHeld => ?_); refine with_tabW impl_Jump_221.tab23 impl_Jump_221.bits23 (fun HT_ HW_ => ?_)
             generalize wr.drew = w56 at hz55_0 hz55_1 hw55_1 hy55_0 hy55_1 HO_0 HK HB GG54 HQ58 HQ59 hf54_0 hf54_1 hf55_0 hf55_1 hxBN_0 hxBN_1 hxBO_0 hxBO_1 hx54_0 hx54_1 hx55_0 hx55_1 hHeld ⊢
             refine puS 0 113 ?_
             refine puS 1 114 ?_
             refine puS 2 115 ?_
             refine puS 3 116 ?_
             refine puS 4 117 ?_
             refine puS 5 118 ?_
             refine puS 6 119 ?_
             refine puS 7 120 ?_
             refine puS 8 121 ?_
             refine puS 10 123 ?_
             refine puS 11 124 ?_
             refine puS 12 125 ?_
             refine tkS 9 122 ?_
             refine tkS 13 126 ?_
             refine puS 14 127 ?_
             refine last_ (i := 15) (N := none) bImplJump221_28 rfl rfl (one_of HT_.out (by kernel_rfl)) (by decide) (fun K hK => ?_)
             refine skip_ (w1 := ?_) (by rfl) rfl ?_ ?_
             rotate_left
             ·go_simp
              rfl
             refine hK.out _ _ ?_
             clear hK K
             refine puS 16 128 ?_
             refine last_ (i := 17) (N := none) bImplJump221_30 rfl rfl (one_of HT_.out (by kernel_rfl)) (by decide) (fun K hK => ?_)
             refine skip_ (w1 := ?_) (by rfl) rfl ?_ ?_
             rotate_left
             ·go_simp
              rfl
             refine hK.out _ _ ?_
             clear hK K
             refine done_ (done_of HT_.out (by kernel_rfl)) ?_
             try go_wp2
             go_roundg k2
             case measure => have := HK1.out; have := HK2.out; omega
             case rel => exact ⟨(yBQ), (ji49), (by first | rfl | (simp; done) | (simp only [← hji49] <;> (first | rfl | simp)) | (simp [*]; done)), H', ⟨by have := HK1.out; have := HK2.out; omega⟩, ⟨by first | exact Kd.R_up HQ59.out | exact HQ59.out⟩, ⟨by repeat (first | (with_reducible first | exact HK.out | apply Kept.alloc | apply Kept.drewN | apply Kept.drew | refine Kept.setCell ?_ HMgo54.out _ | refine Kept.setCell ?_ HMgo54.out _ | refine Kept.setCell ?_ HMgo54.out _ | refine Kept.setCell ?_ HMgo54.out _) | exact HK.out)⟩, ⟨by exact belS⟩⟩
            ·rw [if_neg c53] at H
             exact absurd H (by simp)
           ·rw [if_neg c52] at H
            exact absurd H (by simp)
          ·rw [if_neg c51] at H
           exact absurd H (by simp)
         ·rw [if_neg c50] at H
          exact absurd H (by simp)
        ·rw [if_neg c48] at H
         have c48b0 : decide (x14_1 < x17_2) = false := decide_eq_false c48
         clear c48
         obtain rfl := Option.some.inj H
         go_wp2
         first | go_end0 | ((try simp only [Exit.inBlock, Exit.then]); refine bodyPost_ret (results_none rfl _ _ _) rfl ?_)
         exact ⟨rfE, by (with_reducible repeat (first | apply Kd.R_alloc | apply Kd.R_drewN | apply Kd.R_drew)); exact HO_0.out, by exact belS, by repeat (first | (with_reducible first | exact HK.out | apply Kept.alloc | apply Kept.drewN | apply Kept.drew) | exact HK.out)⟩
  ·rw [if_neg c33] at H
   exact absurd H (by simp)

end Go.Proofs.Ytkobjjadojpjfaa.Pr
