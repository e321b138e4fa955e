-- A text of the machine side, written by wip/gen.py of this repo out of the translation. Not trusted: Lean checks it.
import Derived.Test.YtogfijfhjdjhpaaF0
import Derived.Test.YtogfijfhjdjhpaaFImplTwins30
import Derived.Test.YtogfijfhjdjhpaaFImplTwinsMoves
import Derived.Test.YtogfijfhjdjhpaaHMoved
namespace Go.Proofs.Ytogfijfhjdjhpaa.Pr
open Go.RowKit Go.Proofs.YtogfijfhjdjhpaaW.PrintWords Go.Proofs.YtogfijfhjdjhpaaW.PrintLast Go.Proofs.YtogfijfhjdjhpaaW.PrintMore
attribute [local go_sem] max2_int min2_int max_two min_two max_three min_three max_four min_four   -- for this text's walks alone
set_option linter.unusedVariables false
set_option linter.unusedSimpArgs false

/-! ### impl_behind: function 29 -/
mutual
def impl_behind.l0 : Nat → Int → List (S38) → List (S38) → Int → Int → Option ((List (S38)))
 | 0, _, _, _, _, _ => none
 | k + 1, x1, x5, x15, x16, x17 => if x17 < x16 then (if 0 ≤ x17 then (if x17 < (x15.length : Int) then ((impl_twins_moves.f k ((rd_T38 x15 x17).f0) ((rd_T38 x15 x17).f1) ((rd_T38 x15 x17).f2) ((rd_T38 x15 x17).f3) x1).bind fun tBL => (if (tBL.length : Int) > 0 then (impl_behind.l1 k x1 x5 ([] : List (S38)) x15 x16 x17 tBL (tBL.length : Int) 0 ((rd_T38 x15 x17).f0) ((rd_T38 x15 x17).f1) ((rd_T38 x15 x17).f2) ((rd_T38 x15 x17).f3)) else (impl_behind.j2 k x1 x5 (([(⟨(rd_T38 x15 x17).f0, (rd_T38 x15 x17).f1, (rd_T38 x15 x17).f2, (rd_T38 x15 x17).f3⟩ : S38)] : List (S38))) x15 x16 x17))) else (none)) else (none)) else (some x5)
def impl_behind.j2 : Nat → Int → List (S38) → List (S38) → List (S38) → Int → Int → Option ((List (S38)))
 | 0, _, _, _, _, _, _ => none
 | k + 1, x1, x5, x8, x15, x16, x17 => impl_behind.l2 k x1 x5 x15 x16 x17 x8 (x8.length : Int) 0
def impl_behind.l2 : Nat → Int → List (S38) → List (S38) → Int → Int → List (S38) → Int → Int → Option ((List (S38)))
 | 0, _, _, _, _, _, _, _, _ => none
 | k + 1, x1, x5, x15, x16, x17, x43, x44, x45 => if x45 < x44 then (if 0 ≤ x45 then (if x45 < (x43.length : Int) then ((impl_twins_30.f k x5 ((rd_T38 x43 x45).f0) ((rd_T38 x43 x45).f1) ((rd_T38 x43 x45).f2) ((rd_T38 x43 x45).f3)).bind fun tBY => (if tBY = true then (impl_behind.l2 k x1 x5 x15 x16 x17 x43 x44 (wrap64 (x45 + 1))) else (if x5.length < 4398046511104 then (impl_behind.l2 k x1 (x5 ++ [(⟨(rd_T38 x43 x45).f0, (rd_T38 x43 x45).f1, (rd_T38 x43 x45).f2, (rd_T38 x43 x45).f3⟩ : S38)]) x15 x16 x17 x43 x44 (wrap64 (x45 + 1))) else (none)))) else (none)) else (none)) else (impl_behind.l0 k x1 x5 x15 x16 (wrap64 (x17 + 1)))
def impl_behind.l1 : Nat → Int → List (S38) → List (S38) → List (S38) → Int → Int → List Int → Int → Int → Int → Int → Int → Int → Option ((List (S38)))
 | 0, _, _, _, _, _, _, _, _, _, _, _, _, _ => none
 | k + 1, x1, x5, x8, x15, x16, x17, x29, x30, x31, xBI000, xBI001, xBI002, xBI003 => if x31 < x30 then (if 0 ≤ x31 then (if x31 < (x29.length : Int) then ((impl_twins_moved.f xBI000 xBI001 xBI002 xBI003 (rd x29 x31) x1).bind fun btBP => (if x8.length < 4398046511104 then (impl_behind.l1 k x1 x5 (x8 ++ [(⟨btBP.1, btBP.2.1, btBP.2.2.1, btBP.2.2.2⟩ : S38)]) x15 x16 x17 x29 x30 (wrap64 (x31 + 1)) xBI000 xBI001 xBI002 xBI003) else (none))) else (none)) else (none)) else (impl_behind.j2 k x1 x5 x8 x15 x16 x17)
end
def impl_behind.f (k : Nat) (l0 : List (S38)) (a1 : Int) : Option ((List (S38))) := impl_behind.l0 k a1 (([] : List (S38))) l0 (l0.length : Int) 0
set_option maxHeartbeats 8000000 in
set_option maxRecDepth 100000 in
theorem impl_behind.calls (k : Nat) (A0 : Option Addr) (c0 : Nat) (l0 : List (S38)) (a1 : Int) (r : List (S38)) (w : World) (hr0 : Kd.C k38 w A0 l0.length l0) (hc0 : l0.length ≤ c0) (h : impl_behind.f k l0 a1 = some r) :
  Calls Try.prog 29 #[.slice A0 l0.length c0, .int .i64 a1] w fun e w' => ∃ v0_ : Value, e = .returned (v0_) ∧ Kd.R k38 38 w' w.heap.size (fun _ => True) v0_ r ∧ Below w.heap.size w w' := by
 have hu38 := Try.underlying38
 have hu36 := Try.underlying36
 have HR0 := Aside0.mk hr0
 have HC0 := Aside0.mk hc0
 clear hr0 hc0
 have HB := Aside0.mk (Below.refl w.heap.size w)
 have H : (impl_behind.l0 k a1 (([] : List (S38))) l0 (l0.length : Int) 0) = some r := h
 clear h
 obtain ⟨yBD, hyBD⟩ : ∃ y_ : List (S38), y_ = (([] : List (S38))) := ⟨_, rfl⟩
 replace H : (impl_behind.l0 k a1 yBD l0 (l0.length : Int) 0) = some r := by first | (rw [hyBD]; with_reducible exact H) | (have H2_ := (Option.bind_some _ _).symm.trans H; rw [hyBD]; with_reducible exact H2_) | (have H2_ := (Option.bind_some _ _).symm.trans H; with_reducible exact H2_) | with_reducible exact H | (rw [hyBD]; exact H) | exact H
 have NyBD := Aside0.mk hyBD
 clear hyBD
 have H' := Aside0.mk H
 clear H
 go_enter Try.func29, Try.ntmps29
 go_wp2_with (first | ((with_reducible refine gate_dst (N := 14) rfl ?_); refine Kd.R_lit k38 _ 38 ?hg (N := 14) ?hd (xs := ([] : List (S38))) (inner := []) (ok := fun _ => True) (okp := fun _ => True) ?hr ?hp (fun _ hk => hk) trivial (Below.refl _ _) (Nat.le_refl _) (by simp) ?_; (case hd => rfl); (case hg => rfl); (case hr => first | (go_simp; done) | (go_simp; rfl)); (case hp => exact (Reps.none _ _)); intro vBE w3 ho4 hb hg_ hnew_; clear hg_ hnew_; (first | rw [← NyBD.out] at ho4 | (simp only [Int.reduceToNat] at ho4; rw [← NyBD.out] at ho4)); have n0_ := Aside0.mk (Kd.R_lower ho4 (below_size belS)); have n1_ := Aside0.mk (below_step belS hb); clear HB; revert n0_ n1_; intro HOBF HB; clear hb ho4))
 go_loopg [5, 17] k (fun kq v5 v17 w' => ∃ (x5_1 : List (S38)) (x17_1 : Int), v17 = .int .i64 x17_1 ∧ Aside0 (impl_behind.l0 kq a1 x5_1 l0 (l0.length : Int) x17_1 = some r) ∧ Aside0 (kq ≤ k) ∧ Aside0 (Kd.R k38 38 w' w.heap.size (fun _ => True) v5 x5_1) ∧ Aside0 (Below w.heap.size w w'))
 case atStart => exact ⟨(yBD), (0), (by first | rfl | (simp; done) | (simp [*]; done)), H', ⟨Nat.le_refl _⟩, ⟨by (with_reducible repeat (first | apply Kd.R_alloc | apply Kd.R_drewN | apply Kd.R_drew)); exact HOBF.out⟩, ⟨by exact belS⟩⟩
 case round =>
  clear H'
  try clear c2
  try clear p2
  obtain ⟨x5_1, x17_1, rfl, HA, HK1, HO_5, HB⟩ := hrel
  cases gk with
  | zero => exact absurd HA.out (by simp [impl_behind.l0])
  | succ k1 =>
   have H := HA.out
   clear HA
   simp only [impl_behind.l0] at H
   by_cases c5 : x17_1 < (l0.length : Int)
   ·rw [if_pos c5] at H
    have c5b0 : decide (x17_1 < (l0.length : Int)) = true := decide_eq_true c5
    clear c5
    by_cases c6 : 0 ≤ x17_1
    ·rw [if_pos c6] at H
     have c6b0 : decide (0 ≤ x17_1) = true := decide_eq_true c6
     clear c6
     by_cases c7 : x17_1 < (l0.length : Int)
     ·rw [if_pos c7] at H
      have c7b0 : decide (x17_1 < (l0.length : Int)) = true := decide_eq_true c7
      clear c7
      obtain ⟨yBI, hyBI⟩ : ∃ y_ : List (S38), y_ = (([(⟨(rd_T38 l0 x17_1).f0, (rd_T38 l0 x17_1).f1, (rd_T38 l0 x17_1).f2, (rd_T38 l0 x17_1).f3⟩ : S38)] : List (S38))) := ⟨_, rfl⟩
      replace H : ((impl_twins_moves.f k1 ((rd_T38 l0 x17_1).f0) ((rd_T38 l0 x17_1).f1) ((rd_T38 l0 x17_1).f2) ((rd_T38 l0 x17_1).f3) a1).bind fun tBL => (if (tBL.length : Int) > 0 then (impl_behind.l1 k1 a1 x5_1 ([] : List (S38)) l0 (l0.length : Int) x17_1 tBL (tBL.length : Int) 0 ((rd_T38 l0 x17_1).f0) ((rd_T38 l0 x17_1).f1) ((rd_T38 l0 x17_1).f2) ((rd_T38 l0 x17_1).f3)) else (impl_behind.j2 k1 a1 x5_1 yBI l0 (l0.length : Int) x17_1))) = some r := by first | (rw [hyBI]; with_reducible exact H) | (have H2_ := (Option.bind_some _ _).symm.trans H; rw [hyBI]; with_reducible exact H2_) | (have H2_ := (Option.bind_some _ _).symm.trans H; with_reducible exact H2_) | with_reducible exact H | (rw [hyBI]; exact H) | exact H
      have NyBI := Aside0.mk hyBI
      clear hyBI
      replace H := Option.bind_eq_some_iff.mp H
      obtain ⟨tBL, A80, H⟩ := H
      replace H : (if (tBL.length : Int) > 0 then (impl_behind.l1 k1 a1 x5_1 ([] : List (S38)) l0 (l0.length : Int) x17_1 tBL (tBL.length : Int) 0 ((rd_T38 l0 x17_1).f0) ((rd_T38 l0 x17_1).f1) ((rd_T38 l0 x17_1).f2) ((rd_T38 l0 x17_1).f3)) else (impl_behind.j2 k1 a1 x5_1 yBI l0 (l0.length : Int) x17_1)) = some r := H
      have A8 := Aside0.mk A80
      clear A80
      have HC9 := Aside0.mk H
      clear H
      have pBG : 0 ≤ (x17_1 : Int) := of_decide_eq_true (by first | (with_reducible assumption) | assumption)
      have qBG : x17_1 < (l0.length : Int) := of_decide_eq_true (by first | (with_reducible assumption) | assumption)
      obtain ⟨adBG, eBG, hxBG_0, hxBG_1, hxBG_2, hxBG_3⟩ := at_T38 HR0.out x17_1 pBG qBG
      cases eBG
      first | (replace hxBG_0 := (HB.out.cell (World.block_lt_of_cell? w _ hxBG_0)).trans hxBG_0) | skip
      first | (replace hxBG_1 := (HB.out.cell (World.block_lt_of_cell? w _ hxBG_1)).trans hxBG_1) | skip
      first | (replace hxBG_2 := (HB.out.cell (World.block_lt_of_cell? w _ hxBG_2)).trans hxBG_2) | skip
      first | (replace hxBG_3 := (HB.out.cell (World.block_lt_of_cell? w _ hxBG_3)).trans hxBG_3) | skip
      replace pBG := eq_true pBG
      replace qBG := eq_true qBG
      go_upto_if 28 with (first | ((with_reducible refine gate_dst (N := 7) rfl ?_); refine box_event ?hg (N := 7) ?hd (cs := #[.int .i64 0, .int .i64 0, .int .i64 0, .int .i64 0]) (t := 38) ?hr ?_; (case hd => rfl); (case hg => rfl); (case hr => first | (go_simp; done) | (go_simp; rfl)); intro gbBH hg w10 hbox hb; have n0_ := Aside0.mk (Kd.R_below (Kd.R_elderB (Kd.R_up HO_5.out) gbBH (Nat.le_of_eq hg.symm)) hb); have n1_ := Aside0.mk (below_step belS hb); have n2_ := Aside0.mk (hbox); have n3_ := Aside0.mk (geS hg : w.heap.size ≤ gbBH); have n4_ := n3_; clear HO_5 HB; revert n0_ n1_ n2_ n3_ n4_; intro HO_5 HB BKBH GWBH GEBH; clear hb hbox hg; obtain ⟨hcz11_0, hcz11_1, hcz11_2, hcz11_3, hfz11_0, hfz11_1, hfz11_2, hfz11_3⟩ := blk4 BKBH.out) | ((with_reducible refine gate_dst (N := 22) rfl ?_); refine Kd.R_lit k38 _ 38 ?hg (N := 22) ?hd (xs := ([(⟨(rd_T38 l0 x17_1).f0, (rd_T38 l0 x17_1).f1, (rd_T38 l0 x17_1).f2, (rd_T38 l0 x17_1).f3⟩ : S38)] : List (S38))) (inner := [.int .i64 ((rd_T38 l0 x17_1).f0), .int .i64 ((rd_T38 l0 x17_1).f1), .int .i64 ((rd_T38 l0 x17_1).f2), .int .i64 ((rd_T38 l0 x17_1).f3)]) (ok := fun _ => True) (okp := fun _ => True) ?hr ?hp (fun _ hk => hk) trivial (Below.refl _ _) (Nat.le_refl _) (by simp) ?_; (case hd => rfl); (case hg => rfl); (case hr => first | (go_simp; done) | (go_simp; rfl)); (case hp => exact (Reps.c4 (show Kd.M k38 _ _ _ (⟨(rd_T38 l0 x17_1).f0, (rd_T38 l0 x17_1).f1, (rd_T38 l0 x17_1).f2, (rd_T38 l0 x17_1).f3⟩ : S38) [.int .i64 ((rd_T38 l0 x17_1).f0), .int .i64 ((rd_T38 l0 x17_1).f1), .int .i64 ((rd_T38 l0 x17_1).f2), .int .i64 ((rd_T38 l0 x17_1).f3)] from (k38_mkM _ _ _ (⟨(rd_T38 l0 x17_1).f0, (rd_T38 l0 x17_1).f1, (rd_T38 l0 x17_1).f2, (rd_T38 l0 x17_1).f3⟩ : S38) )) (Reps.none _ _))); intro vBJ w12 ho13 hb hg_ hnew_; clear hg_ hnew_; (first | rw [← NyBI.out] at ho13 | (simp only [Int.reduceToNat] at ho13; rw [← NyBI.out] at ho13)); have n0_ := Aside0.mk (Kd.R_elder' (by (with_reducible repeat (first | apply Kd.R_alloc | apply Kd.R_drewN | apply Kd.R_drew)); exact (Kd.R_mono (Kd.R_far (p := ⟨gbBH, 3, none⟩) (Kd.R_far (p := ⟨gbBH, 2, none⟩) (Kd.R_far (p := ⟨gbBH, 1, none⟩) (Kd.R_far (p := ⟨gbBH, 0, none⟩) (Kd.R_mono HO_5.out (fun k_ hk => (⟨hk, hk.2⟩ : _ ∧ k_ ≠ gbBH))) (fun _ hk => hk.2) (.int .i64 ((rd_T38 l0 x17_1).f0))) (fun _ hk => hk.2) (.int .i64 ((rd_T38 l0 x17_1).f1))) (fun _ hk => hk.2) (.int .i64 ((rd_T38 l0 x17_1).f2))) (fun _ hk => hk.2) (.int .i64 ((rd_T38 l0 x17_1).f3))) (fun _ h_ => h_.1))) (Kd.R_base ho13) hb); have n1_ := Aside0.mk (Kd.R_lower (Kd.R_newB (Kd.R_new' ho13 (Kd.R_lt (by (with_reducible repeat (first | apply Kd.R_alloc | apply Kd.R_drewN | apply Kd.R_drew)); exact (Kd.R_mono (Kd.R_far (p := ⟨gbBH, 3, none⟩) (Kd.R_far (p := ⟨gbBH, 2, none⟩) (Kd.R_far (p := ⟨gbBH, 1, none⟩) (Kd.R_far (p := ⟨gbBH, 0, none⟩) (Kd.R_mono HO_5.out (fun k_ hk => (⟨hk, hk.2⟩ : _ ∧ k_ ≠ gbBH))) (fun _ hk => hk.2) (.int .i64 ((rd_T38 l0 x17_1).f0))) (fun _ hk => hk.2) (.int .i64 ((rd_T38 l0 x17_1).f1))) (fun _ hk => hk.2) (.int .i64 ((rd_T38 l0 x17_1).f2))) (fun _ hk => hk.2) (.int .i64 ((rd_T38 l0 x17_1).f3))) (fun _ h_ => h_.1))))) (g := gbBH) (o := .cells #[.int .i64 ((rd_T38 l0 x17_1).f0), .int .i64 ((rd_T38 l0 x17_1).f1), .int .i64 ((rd_T38 l0 x17_1).f2), .int .i64 ((rd_T38 l0 x17_1).f3)] 38 (0, 0)) (by (with_reducible repeat (first | refine blk_drewN ?_ _ | refine blk_drew ?_ | refine blk_alloc ?_ _)); refine blk_put (cs := #[.int .i64 ((rd_T38 l0 x17_1).f0), .int .i64 ((rd_T38 l0 x17_1).f1), .int .i64 ((rd_T38 l0 x17_1).f2), .int .i64 0]) ?_ 3 _ rfl; refine blk_put (cs := #[.int .i64 ((rd_T38 l0 x17_1).f0), .int .i64 ((rd_T38 l0 x17_1).f1), .int .i64 0, .int .i64 0]) ?_ 2 _ rfl; refine blk_put (cs := #[.int .i64 ((rd_T38 l0 x17_1).f0), .int .i64 0, .int .i64 0, .int .i64 0]) ?_ 1 _ rfl; refine blk_putU (cs := #[.int .i64 0, .int .i64 0, .int .i64 0, .int .i64 0]) ?_ 0 _ rfl; exact BKBH.out)) (below_size belS)); have n2_ := Aside0.mk (blk_below (g := gbBH) (o := .cells #[.int .i64 ((rd_T38 l0 x17_1).f0), .int .i64 ((rd_T38 l0 x17_1).f1), .int .i64 ((rd_T38 l0 x17_1).f2), .int .i64 ((rd_T38 l0 x17_1).f3)] 38 (0, 0)) (by (with_reducible repeat (first | refine blk_drewN ?_ _ | refine blk_drew ?_ | refine blk_alloc ?_ _)); refine blk_put (cs := #[.int .i64 ((rd_T38 l0 x17_1).f0), .int .i64 ((rd_T38 l0 x17_1).f1), .int .i64 ((rd_T38 l0 x17_1).f2), .int .i64 0]) ?_ 3 _ rfl; refine blk_put (cs := #[.int .i64 ((rd_T38 l0 x17_1).f0), .int .i64 ((rd_T38 l0 x17_1).f1), .int .i64 0, .int .i64 0]) ?_ 2 _ rfl; refine blk_put (cs := #[.int .i64 ((rd_T38 l0 x17_1).f0), .int .i64 0, .int .i64 0, .int .i64 0]) ?_ 1 _ rfl; refine blk_putU (cs := #[.int .i64 0, .int .i64 0, .int .i64 0, .int .i64 0]) ?_ 0 _ rfl; exact BKBH.out) hb); have n3_ := Aside0.mk (below_step belS hb); clear HO_5 BKBH HB; revert n0_ n1_ n2_ n3_; intro HO_5 HOBK BKBH HB; clear hb ho13; obtain ⟨hcz14_0, hcz14_1, hcz14_2, hcz14_3, hfz14_0, hfz14_1, hfz14_2, hfz14_3⟩ := blk4 BKBH.out) | ((with_reducible refine gate_callee (f := 41) rfl ?_); refine goesL_ (some 25) rfl rfl Try.func41 (by kernel_rfl) rfl #[.agg #[.int .i64 ((rd_T38 l0 x17_1).f0), .int .i64 ((rd_T38 l0 x17_1).f1), .int .i64 ((rd_T38 l0 x17_1).f2), .int .i64 ((rd_T38 l0 x17_1).f3)], .int .i64 a1] rfl argS ?_; (with_reducible refine (impl_twins_moves.calls k1 ((rd_T38 l0 x17_1).f0) ((rd_T38 l0 x17_1).f1) ((rd_T38 l0 x17_1).f2) ((rd_T38 l0 x17_1).f3) a1 tBL _ A8.out).mono ?_); rintro e w15 ⟨vBM, rfl, ho0, hb⟩; refine ⟨_, rfl, ?_⟩; have n0_ := Aside0.mk (Kd.R_below (Kd.R_up HO_5.out) hb); have n1_ := Aside0.mk (Kd.R_below (Kd.R_up HOBK.out) hb); have n2_ := Aside0.mk (Kd.R_lower ho0 (below_size belS)); have n3_ := Aside0.mk (blk_below (blk_up BKBH.out) hb); have n4_ := Aside0.mk (below_step belS hb); clear HO_5 HOBK BKBH HB; revert n0_ n1_ n2_ n3_ n4_; intro HO_5 HOBK HOBN BKBH HB; (try clear hb); (try clear ho0); obtain ⟨Ao16, co16, eo16⟩ := Kd.R_slice HOBN.out; subst eo16))
      (try simp only [Act.put, sA_, sB_, sC_])
      go_cut [8] (fun v8 wc => ∃ (kq : Nat) (x8_8 : List (S38)), Aside0 (impl_behind.j2 kq a1 x5_1 x8_8 l0 (l0.length : Int) x17_1 = some r) ∧ Aside0 (kq ≤ k1) ∧ Aside0 (Kd.R k38 38 wc w.heap.size (fun k_ => some k_ ≠ (v8 : Value).ownBlock ∧ k_ ≠ gbBH) u5 x5_1) ∧ Aside0 (Kd.R k38 38 wc w.heap.size (fun k_ => some k_ ≠ (u5 : Value).ownBlock ∧ k_ ≠ gbBH) v8 x8_8) ∧ Aside0 (wc.heap[gbBH]? = some (.cells #[.int .i64 ((rd_T38 l0 x17_1).f0), .int .i64 ((rd_T38 l0 x17_1).f1), .int .i64 ((rd_T38 l0 x17_1).f2), .int .i64 ((rd_T38 l0 x17_1).f3)] 38 (0, 0))) ∧ Aside0 (Below w.heap.size w wc))
      case first =>
       have H := HC9.out
       clear HC9
       by_cases c17 : (tBL.length : Int) > 0
       ·rw [if_pos c17] at H
        have c17b0 : decide (0 < (tBL.length : Int)) = true := decide_eq_true c17
        have c17b1 : decide (0 < tBL.length) = true := decide_eq_true (by omega)
        clear c17
        (first | rw [c17b0] | (simp only [i64_w, i32_w]; rw [c17b0]) | rw [c17b1] | skip)
        have H' := Aside0.mk H
        clear H
        go_wp2
        go_loopg [8, 31] k1 (fun kq v8 v31 w' => ∃ (x8_2 : List (S38)) (x31_2 : Int), v31 = .int .i64 x31_2 ∧ Aside0 (impl_behind.l1 kq a1 x5_1 x8_2 l0 (l0.length : Int) x17_1 tBL (tBL.length : Int) x31_2 ((rd_T38 l0 x17_1).f0) ((rd_T38 l0 x17_1).f1) ((rd_T38 l0 x17_1).f2) ((rd_T38 l0 x17_1).f3) = some r) ∧ Aside0 (kq ≤ k1) ∧ Aside0 (Kd.R k38 38 w' w.heap.size (fun k_ => some k_ ≠ (v8 : Value).ownBlock ∧ k_ ≠ gbBH) u5 x5_1) ∧ Aside0 (Kd.R k38 38 w' w.heap.size (fun k_ => some k_ ≠ (u5 : Value).ownBlock ∧ k_ ≠ gbBH) v8 x8_2) ∧ Aside0 (Kd.R (Kd.int .i64) 3 w' w.heap.size (fun _ => True) (.slice Ao16 tBL.length co16) tBL) ∧ Aside0 (w'.heap[gbBH]? = some (.cells #[.int .i64 ((rd_T38 l0 x17_1).f0), .int .i64 ((rd_T38 l0 x17_1).f1), .int .i64 ((rd_T38 l0 x17_1).f2), .int .i64 ((rd_T38 l0 x17_1).f3)] 38 (0, 0))) ∧ Aside0 (Below w.heap.size w w'))
        case atStart => exact ⟨(([] : List (S38))), (0), (by first | rfl | (simp; done) | (simp [*]; done)), H', ⟨Nat.le_refl _⟩, ⟨by (with_reducible repeat (first | apply Kd.R_alloc | apply Kd.R_drewN | apply Kd.R_drew)); exact Kd.R_mono HO_5.out (fun _ hk => ⟨(by simp [Value.ownBlock]), hk.1.2⟩)⟩, ⟨by first | exact Kd.R_nil _ _ _ _ _ | exact Kd.N_nil _ _ _ _ _ | exact Kd.V_nil _ _ _ _ _ | exact Kd.Q_nil _ _ _ _ _ | exact Kd.S_nil _ _ _ _ _⟩, ⟨by (with_reducible repeat (first | apply Kd.R_alloc | apply Kd.R_drewN | apply Kd.R_drew)); exact HOBN.out⟩, ⟨by (with_reducible repeat (first | refine blk_drewN ?_ _ | refine blk_drew ?_ | refine blk_alloc ?_ _)); exact BKBH.out⟩, ⟨by exact belS⟩⟩
        case round =>
         clear H'
         try clear c1
         try clear c2
         try clear p2
         try clear c4
         try clear c5
         try clear c5b0
         try clear p5
         try clear q5
         try clear hx5
         try clear c6
         try clear c6b0
         try clear c7
         try clear c7b0
         try clear c17
         try clear c17b0
         try clear c17b1
         try clear hcz11_0 hcz11_1 hcz11_2 hcz11_3
         try clear hcz14_0 hcz14_1 hcz14_2 hcz14_3
         try clear hfz11_0 hfz11_1 hfz11_2 hfz11_3
         try clear hfz14_0 hfz14_1 hfz14_2 hfz14_3
         try clear hxBG_0
         try clear hxBG_1
         try clear hxBG_2
         try clear hxBG_3
         try clear p2
         try clear pBG
         try clear qBG
         obtain ⟨x8_2, x31_2, rfl, HA, HK2, HO_5, HO_8, HO_29, BKBH, HB⟩ := hrel
         cases gk with
         | zero => exact absurd HA.out (by simp [impl_behind.l1])
         | succ k2 =>
          have H := HA.out
          clear HA
          simp only [impl_behind.l1] at H
          by_cases c18 : x31_2 < (tBL.length : Int)
          ·rw [if_pos c18] at H
           have c18b0 : decide (x31_2 < (tBL.length : Int)) = true := decide_eq_true c18
           clear c18
           by_cases c19 : 0 ≤ x31_2
           ·rw [if_pos c19] at H
            have c19b0 : decide (0 ≤ x31_2) = true := decide_eq_true c19
            clear c19
            by_cases c20 : x31_2 < (tBL.length : Int)
            ·rw [if_pos c20] at H
             have c20b0 : decide (x31_2 < (tBL.length : Int)) = true := decide_eq_true c20
             clear c20
             replace H := Option.bind_eq_some_iff.mp H
             obtain ⟨⟨tBP, tBQ, tBR, tBS⟩, A210, H⟩ := H
             replace H : (if x8_2.length < 4398046511104 then (impl_behind.l1 k2 a1 x5_1 (x8_2 ++ [(⟨tBP, tBQ, tBR, tBS⟩ : S38)]) l0 (l0.length : Int) x17_1 tBL (tBL.length : Int) (wrap64 (x31_2 + 1)) ((rd_T38 l0 x17_1).f0) ((rd_T38 l0 x17_1).f1) ((rd_T38 l0 x17_1).f2) ((rd_T38 l0 x17_1).f3)) else (none)) = some r := H
             have A21 := Aside0.mk A210
             clear A210
             by_cases c22 : x8_2.length < 4398046511104
             ·rw [if_pos c22] at H
              have LMc22 := Aside0.mk c22
              clear c22
              obtain ⟨yBT, hyBT⟩ : ∃ y_ : List (S38), y_ = (x8_2 ++ [(⟨tBP, tBQ, tBR, tBS⟩ : S38)]) := ⟨_, rfl⟩
              replace H : (impl_behind.l1 k2 a1 x5_1 yBT l0 (l0.length : Int) x17_1 tBL (tBL.length : Int) (wrap64 (x31_2 + 1)) ((rd_T38 l0 x17_1).f0) ((rd_T38 l0 x17_1).f1) ((rd_T38 l0 x17_1).f2) ((rd_T38 l0 x17_1).f3)) = some r := by first | (rw [hyBT]; with_reducible exact H) | (have H2_ := (Option.bind_some _ _).symm.trans H; rw [hyBT]; with_reducible exact H2_) | (have H2_ := (Option.bind_some _ _).symm.trans H; with_reducible exact H2_) | with_reducible exact H | (rw [hyBT]; exact H) | exact H
              have NyBT := Aside0.mk hyBT
              clear hyBT
              have H' := Aside0.mk H
              clear H
              have pBO : 0 ≤ (x31_2 : Int) := of_decide_eq_true (by first | (with_reducible assumption) | assumption)
              have qBO : x31_2 < (tBL.length : Int) := of_decide_eq_true (by first | (with_reducible assumption) | assumption)
              obtain ⟨adBO, eBO, hxBO_0⟩ := Kd.at_int (Kd.R_reads' HO_29.out).2.2 x31_2 pBO qBO
              cases eBO
              replace pBO := eq_true pBO
              replace qBO := eq_true qBO
              obtain ⟨hcz23_0, hcz23_1, hcz23_2, hcz23_3, hfz23_0, hfz23_1, hfz23_2, hfz23_3⟩ := blk4 BKBH.out
              go_wp2_with (first | ((with_reducible refine gate_callee (f := 42) rfl ?_); refine goesL_ (some 39) rfl rfl Try.func42 (by kernel_rfl) rfl #[.agg #[.int .i64 ((rd_T38 l0 x17_1).f0), .int .i64 ((rd_T38 l0 x17_1).f1), .int .i64 ((rd_T38 l0 x17_1).f2), .int .i64 ((rd_T38 l0 x17_1).f3)], .int .i64 (rd tBL x31_2), .int .i64 a1] rfl argS ?_; (with_reducible refine (impl_twins_moved.calls ((rd_T38 l0 x17_1).f0) ((rd_T38 l0 x17_1).f1) ((rd_T38 l0 x17_1).f2) ((rd_T38 l0 x17_1).f3) (rd tBL x31_2) a1 tBP tBQ tBR tBS _ A21.out).mono ?_); rintro e w24 ⟨rfl, hb⟩; refine ⟨_, rfl, ?_⟩; have n0_ := Aside0.mk (Kd.R_below (Kd.R_up HO_5.out) hb); have n1_ := Aside0.mk (Kd.R_below (Kd.R_up HO_8.out) hb); have n2_ := Aside0.mk (Kd.R_below (Kd.R_up HO_29.out) hb); have n3_ := Aside0.mk (blk_below (blk_up BKBH.out) hb); have n4_ := Aside0.mk (below_step belS hb); clear HO_5 HO_8 HO_29 BKBH HB; revert n0_ n1_ n2_ n3_ n4_; intro HO_5 HO_8 HO_29 BKBH HB; (try clear hb)) | ((with_reducible refine gate_builtin (b := .append) (xs := #[.tmp 35, .tmp 40]) rfl ?_); at_builtin; refine Kd.R_append k38 (w0 := w) w.heap.size rfl (.tmp 35) (.tmp 40) 44 38 (.agg #[(.int .i64 0), (.int .i64 0), (.int .i64 0), (.int .i64 0)]) 32 rfl Try.underlying44 info38 rfl (by decide) (by omega) u8 x8_2 (⟨tBP, tBQ, tBR, tBS⟩ : S38) [.int .i64 tBP, .int .i64 tBQ, .int .i64 tBR, .int .i64 tBS] (fun k_ => some k_ ≠ (u5 : Value).ownBlock ∧ k_ ≠ gbBH) (fun _ => False) rfl rfl ?aP (fun _ hk => hk.elim) ?aF ?aO ?aB ?aS ?aL ?_; (case aP => exact k38_mkM _ _ _ (⟨tBP, tBQ, tBR, tBS⟩ : S38)); (case aB => exact belS); (case aF => exact (fun k_ hk => ⟨Kd.fresh' (Kd.R_lt (Kd.R_up HO_5.out)) k_ hk, Kd.freshB (g := gbBH) (o := .cells #[.int .i64 ((rd_T38 l0 x17_1).f0), .int .i64 ((rd_T38 l0 x17_1).f1), .int .i64 ((rd_T38 l0 x17_1).f2), .int .i64 ((rd_T38 l0 x17_1).f3)] 38 (0, 0)) (blk_up BKBH.out) k_ hk⟩)); (case aO => exact (Kd.R_up HO_8.out)); (case aS => exact (below_size belS)); (case aL => have := LMc22.out; omega); intro vBU w25 ho hb hg hat; rw [← NyBT.out] at ho; have n0_ := Aside0.mk (Kd.R_after (ok := (fun k_ => k_ ≠ gbBH)) (by (with_reducible repeat (first | apply Kd.R_alloc | apply Kd.R_drewN | apply Kd.R_drew)); exact Kd.R_mono HO_5.out (fun _ hk => ⟨hk.2, hk.1⟩)) hg hat); have n1_ := Aside0.mk (Kd.R_over' (Kd.R_up HO_29.out) (Kd.R_typed (Kd.R_up HO_8.out)) (by decide) hg); have n2_ := Aside0.mk (blk_grown (g := gbBH) (o := .cells #[.int .i64 ((rd_T38 l0 x17_1).f0), .int .i64 ((rd_T38 l0 x17_1).f1), .int .i64 ((rd_T38 l0 x17_1).f2), .int .i64 ((rd_T38 l0 x17_1).f3)] 38 (0, 0)) (blk_up BKBH.out) hg (Kd.R_away HO_8.out (fun _ hk => hk.2))); have n3_ := Aside0.mk (hb); have n4_ := Aside0.mk (ho); clear HO_5 HO_29 BKBH HB HO_8; revert n0_ n1_ n2_ n3_ n4_; intro HO_5 HO_29 BKBH HB HOBV; clear ho hb hg hat))
              go_roundg k2
              case measure => have := HK1.out; have := HK2.out; omega
              case rel => exact ⟨(yBT), (wrap64 (x31_2 + 1)), (by first | rfl | (simp; done) | (simp [*]; done)), H', ⟨by have := HK1.out; have := HK2.out; omega⟩, ⟨by (with_reducible repeat (first | apply Kd.R_alloc | apply Kd.R_drewN | apply Kd.R_drew)); exact Kd.R_mono HO_5.out (fun _ hk => ⟨hk.2, hk.1⟩)⟩, ⟨by (with_reducible repeat (first | apply Kd.R_alloc | apply Kd.R_drewN | apply Kd.R_drew)); exact HOBV.out⟩, ⟨by (with_reducible repeat (first | apply Kd.R_alloc | apply Kd.R_drewN | apply Kd.R_drew)); exact HO_29.out⟩, ⟨by (with_reducible repeat (first | refine blk_drewN ?_ _ | refine blk_drew ?_ | refine blk_alloc ?_ _)); exact BKBH.out⟩, ⟨by exact belS⟩⟩
             ·rw [if_neg c22] at H
              exact absurd H (by simp)
            ·rw [if_neg c20] at H
             exact absurd H (by simp)
           ·rw [if_neg c19] at H
            exact absurd H (by simp)
          ·rw [if_neg c18] at H
           have c18b0 : decide (x31_2 < (tBL.length : Int)) = false := decide_eq_false c18
           clear c18
           have H' := Aside0.mk H
           clear H
           go_wp2
           go_meet
           case rel => exact ⟨_, (x8_2), H', ⟨by have := HK1.out; have := HK2.out; first | omega | exact Nat.le_refl _⟩, ⟨by (with_reducible repeat (first | apply Kd.R_alloc | apply Kd.R_drewN | apply Kd.R_drew)); exact HO_5.out⟩, ⟨by (with_reducible repeat (first | apply Kd.R_alloc | apply Kd.R_drewN | apply Kd.R_drew)); exact HO_8.out⟩, ⟨by (with_reducible repeat (first | refine blk_drewN ?_ _ | refine blk_drew ?_ | refine blk_alloc ?_ _)); exact BKBH.out⟩, ⟨by exact belS⟩⟩
       ·rw [if_neg c17] at H
        have c17b0 : decide (0 < (tBL.length : Int)) = false := decide_eq_false c17
        have c17b1 : decide (0 < tBL.length) = false := decide_eq_false (by omega)
        clear c17
        (first | rw [c17b0] | (simp only [i64_w, i32_w]; rw [c17b0]) | rw [c17b1] | skip)
        have H' := Aside0.mk H
        clear H
        go_wp2
        go_meet
        case rel => exact ⟨_, (yBI), H', ⟨by have := HK1.out; first | omega | exact Nat.le_refl _⟩, ⟨by (with_reducible repeat (first | apply Kd.R_alloc | apply Kd.R_drewN | apply Kd.R_drew)); exact Kd.R_mono HO_5.out (fun _ hk => ⟨hk.2, hk.1.2⟩)⟩, ⟨by (with_reducible repeat (first | apply Kd.R_alloc | apply Kd.R_drewN | apply Kd.R_drew)); exact Kd.R_mono HOBK.out (fun _ hk => ⟨hk.1.2, hk.2⟩)⟩, ⟨by (with_reducible repeat (first | refine blk_drewN ?_ _ | refine blk_drew ?_ | refine blk_alloc ?_ _)); exact BKBH.out⟩, ⟨by exact belS⟩⟩
      case rest =>
       clear HC9
       try clear c1
       try clear c2
       try clear p2
       try clear c4
       try clear c5
       try clear c5b0
       try clear p5
       try clear q5
       try clear hx5
       try clear c6
       try clear c6b0
       try clear p6
       try clear c7
       try clear c7b0
       try clear c17
       try clear c17b0
       try clear c17b1
       try clear c18
       try clear c18b0
       try clear c19
       try clear c19b0
       try clear c20
       try clear c20b0
       try clear c22
       try clear hcz11_0 hcz11_1 hcz11_2 hcz11_3
       try clear hcz14_0 hcz14_1 hcz14_2 hcz14_3
       try clear hcz23_0 hcz23_1 hcz23_2 hcz23_3
       try clear hfz11_0 hfz11_1 hfz11_2 hfz11_3
       try clear hfz14_0 hfz14_1 hfz14_2 hfz14_3
       try clear hfz23_0 hfz23_1 hfz23_2 hfz23_3
       try clear hxBG_0
       try clear hxBG_1
       try clear hxBG_2
       try clear hxBG_3
       try clear hxBO_0
       try clear p2
       try clear p5
       try clear pBG
       try clear pBO
       try clear q5
       try clear qBG
       try clear qBO
       obtain ⟨kq, x8_8, HA, HJ8, HO_5, HO_8, BKBH, HB⟩ := hcut
       cases kq with
       | zero => exact absurd HA.out (by simp [impl_behind.j2])
       | succ kj8 =>
        have H := HA.out
        clear HA
        simp only [impl_behind.j2] at H
        have H' := Aside0.mk H
        clear H
        obtain ⟨Ao26, co26, eo26⟩ := Kd.R_slice HO_8.out
        subst eo26
        go_wp2
        go_loopg [5, 45] kj8 (fun kq v5 v45 w' => ∃ (x5_3 : List (S38)) (x45_3 : Int), v45 = .int .i64 x45_3 ∧ Aside0 (impl_behind.l2 kq a1 x5_3 l0 (l0.length : Int) x17_1 x8_8 (x8_8.length : Int) x45_3 = some r) ∧ Aside0 (kq ≤ kj8) ∧ Aside0 (Kd.R k38 38 w' w.heap.size (fun k_ => some k_ ≠ ((.slice Ao26 x8_8.length co26) : Value).ownBlock ∧ k_ ≠ gbBH) v5 x5_3) ∧ Aside0 (Kd.R k38 38 w' w.heap.size (fun k_ => some k_ ≠ (v5 : Value).ownBlock ∧ k_ ≠ gbBH) (.slice Ao26 x8_8.length co26) x8_8) ∧ Aside0 (w'.heap[gbBH]? = some (.cells #[.int .i64 ((rd_T38 l0 x17_1).f0), .int .i64 ((rd_T38 l0 x17_1).f1), .int .i64 ((rd_T38 l0 x17_1).f2), .int .i64 ((rd_T38 l0 x17_1).f3)] 38 (0, 0))) ∧ Aside0 (Below w.heap.size w w'))
        case atStart => exact ⟨(x5_1), (0), (by first | rfl | (simp; done) | (simp [*]; done)), H', ⟨Nat.le_refl _⟩, ⟨by (with_reducible repeat (first | apply Kd.R_alloc | apply Kd.R_drewN | apply Kd.R_drew)); exact HO_5.out⟩, ⟨by (with_reducible repeat (first | apply Kd.R_alloc | apply Kd.R_drewN | apply Kd.R_drew)); exact HO_8.out⟩, ⟨by (with_reducible repeat (first | refine blk_drewN ?_ _ | refine blk_drew ?_ | refine blk_alloc ?_ _)); exact BKBH.out⟩, ⟨by exact belS⟩⟩
        case round =>
         clear H'
         try clear c1
         try clear c2
         try clear p2
         try clear c4
         try clear c5
         try clear c5b0
         try clear p5
         try clear q5
         try clear hx5
         try clear c6
         try clear c6b0
         try clear p6
         try clear c7
         try clear c7b0
         try clear c17
         try clear c17b0
         try clear c17b1
         try clear c18
         try clear c18b0
         try clear c19
         try clear c19b0
         try clear c20
         try clear c20b0
         try clear c22
         try clear hcz11_0 hcz11_1 hcz11_2 hcz11_3
         try clear hcz14_0 hcz14_1 hcz14_2 hcz14_3
         try clear hcz23_0 hcz23_1 hcz23_2 hcz23_3
         try clear hfz11_0 hfz11_1 hfz11_2 hfz11_3
         try clear hfz14_0 hfz14_1 hfz14_2 hfz14_3
         try clear hfz23_0 hfz23_1 hfz23_2 hfz23_3
         try clear hxBG_0
         try clear hxBG_1
         try clear hxBG_2
         try clear hxBG_3
         try clear hxBO_0
         try clear p2
         try clear p5
         try clear pBG
         try clear pBO
         try clear p6
         try clear q5
         try clear qBG
         try clear qBO
         obtain ⟨x5_3, x45_3, rfl, HA, HK3, HO_5, HO_43, BKBH, HB⟩ := hrel
         cases gk with
         | zero => exact absurd HA.out (by simp [impl_behind.l2])
         | succ k3 =>
          have H := HA.out
          clear HA
          simp only [impl_behind.l2] at H
          by_cases c27 : x45_3 < (x8_8.length : Int)
          ·rw [if_pos c27] at H
           have c27b0 : decide (x45_3 < (x8_8.length : Int)) = true := decide_eq_true c27
           clear c27
           by_cases c28 : 0 ≤ x45_3
           ·rw [if_pos c28] at H
            have c28b0 : decide (0 ≤ x45_3) = true := decide_eq_true c28
            clear c28
            by_cases c29 : x45_3 < (x8_8.length : Int)
            ·rw [if_pos c29] at H
             have c29b0 : decide (x45_3 < (x8_8.length : Int)) = true := decide_eq_true c29
             clear c29
             replace H := Option.bind_eq_some_iff.mp H
             obtain ⟨tBY, A300, H⟩ := H
             replace H : (if tBY = true then (impl_behind.l2 k3 a1 x5_3 l0 (l0.length : Int) x17_1 x8_8 (x8_8.length : Int) (wrap64 (x45_3 + 1))) else (if x5_3.length < 4398046511104 then (impl_behind.l2 k3 a1 (x5_3 ++ [(⟨(rd_T38 x8_8 x45_3).f0, (rd_T38 x8_8 x45_3).f1, (rd_T38 x8_8 x45_3).f2, (rd_T38 x8_8 x45_3).f3⟩ : S38)]) l0 (l0.length : Int) x17_1 x8_8 (x8_8.length : Int) (wrap64 (x45_3 + 1))) else (none))) = some r := H
             have A30 := Aside0.mk A300
             clear A300
             by_cases c31 : tBY = true
             ·subst c31
              have H1 : (impl_behind.l2 k3 a1 x5_3 l0 (l0.length : Int) x17_1 x8_8 (x8_8.length : Int) (wrap64 (x45_3 + 1))) = some r := by rw [if_pos rfl] at H; exact H
              clear H
              have H := H1
              clear H1
              have H' := Aside0.mk H
              clear H
              have pBW : 0 ≤ (x45_3 : Int) := of_decide_eq_true (by first | (with_reducible assumption) | assumption)
              have qBW : x45_3 < (x8_8.length : Int) := of_decide_eq_true (by first | (with_reducible assumption) | assumption)
              obtain ⟨adBW, eBW, hxBW_0, hxBW_1, hxBW_2, hxBW_3⟩ := at_T38 (Kd.R_reads' HO_43.out).2.2 x45_3 pBW qBW
              cases eBW
              replace pBW := eq_true pBW
              replace qBW := eq_true qBW
              go_wp2_with (first | ((with_reducible refine gate_dst (N := 13) rfl ?_); refine box_event ?hg (N := 13) ?hd (cs := #[.int .i64 0, .int .i64 0, .int .i64 0, .int .i64 0]) (t := 38) ?hr ?_; (case hd => rfl); (case hg => rfl); (case hr => first | (go_simp; done) | (go_simp; rfl)); intro gbBX hg w32 hbox hb; have n0_ := Aside0.mk (Kd.R_below (Kd.R_elderB (Kd.R_up HO_5.out) gbBX (Nat.le_of_eq hg.symm)) hb); have n1_ := Aside0.mk (Kd.R_below (Kd.R_elderB (Kd.R_up HO_43.out) gbBX (Nat.le_of_eq hg.symm)) hb); have n2_ := Aside0.mk (blk_below (blk_up BKBH.out) hb); have n3_ := Aside0.mk (below_step belS hb); have n4_ := Aside0.mk (hbox); have n5_ := Aside0.mk (geS hg : w.heap.size ≤ gbBX); have n6_ := n5_; have n7_ := Aside0.mk ((by rw [hg]; exact Nat.ne_of_lt (blk_lt (blk_up BKBH.out)) : gbBH ≠ gbBX)); have n8_ := Aside0.mk ((by rw [hg]; exact Nat.ne_of_gt (blk_lt (blk_up BKBH.out)) : gbBX ≠ gbBH)); clear HO_5 HO_43 BKBH HB; revert n0_ n1_ n2_ n3_ n4_ n5_ n6_ n7_ n8_; intro HO_5 HO_43 BKBH HB BKBX GWBX GEBX NBBH_BX NBBX_BH; clear hb hbox hg; have hnb33 := NBBX_BH.out; have hnc33 := NBBH_BX.out; obtain ⟨hcz34_0, hcz34_1, hcz34_2, hcz34_3, hfz34_0, hfz34_1, hfz34_2, hfz34_3⟩ := blk4 BKBX.out; obtain ⟨Ao35, co35, eo35⟩ := Kd.R_slice HO_5.out; subst eo35) | ((with_reducible refine gate_callee (f := 30) rfl ?_); refine goesL_ (some 51) rfl rfl Try.func30 (by kernel_rfl) rfl #[.slice Ao35 x5_3.length co35, .agg #[.int .i64 ((rd_T38 x8_8 x45_3).f0), .int .i64 ((rd_T38 x8_8 x45_3).f1), .int .i64 ((rd_T38 x8_8 x45_3).f2), .int .i64 ((rd_T38 x8_8 x45_3).f3)]] rfl argS ?_; (with_reducible refine (impl_twins_30.calls k3 _ _ x5_3 ((rd_T38 x8_8 x45_3).f0) ((rd_T38 x8_8 x45_3).f1) ((rd_T38 x8_8 x45_3).f2) ((rd_T38 x8_8 x45_3).f3) true _ ?side1 ?side2 A30.out).mono ?_); (case side1 => refine (Kd.R_reads' (e := 38) (base := w.heap.size) (ok := fun k_ => ((some k_ ≠ (.slice (some adBW) x8_8.length co26 : Value).ownBlock ∧ k_ ≠ gbBH) ∧ k_ ≠ gbBX)) (n := x5_3.length) (c := co35) ?_).2.2; exact (by (with_reducible repeat (first | apply Kd.R_alloc | apply Kd.R_drewN | apply Kd.R_drew)); exact (Kd.R_mono (Kd.R_far (p := ⟨gbBX, 3, none⟩) (Kd.R_far (p := ⟨gbBX, 2, none⟩) (Kd.R_far (p := ⟨gbBX, 1, none⟩) (Kd.R_far (p := ⟨gbBX, 0, none⟩) (Kd.R_mono HO_5.out (fun k_ hk => (⟨hk, hk.2⟩ : _ ∧ k_ ≠ gbBX))) (fun _ hk => hk.2) (.int .i64 ((rd_T38 x8_8 x45_3).f0))) (fun _ hk => hk.2) (.int .i64 ((rd_T38 x8_8 x45_3).f1))) (fun _ hk => hk.2) (.int .i64 ((rd_T38 x8_8 x45_3).f2))) (fun _ hk => hk.2) (.int .i64 ((rd_T38 x8_8 x45_3).f3))) (fun _ h_ => h_.1)))); (case side2 => exact (Kd.R_reads' HO_5.out).2.1); rintro e w36 ⟨rfl, hb⟩; refine ⟨_, rfl, ?_⟩; have n0_ := Aside0.mk (Kd.R_below (by (with_reducible repeat (first | apply Kd.R_alloc | apply Kd.R_drewN | apply Kd.R_drew)); exact (Kd.R_mono (Kd.R_far (p := ⟨gbBX, 3, none⟩) (Kd.R_far (p := ⟨gbBX, 2, none⟩) (Kd.R_far (p := ⟨gbBX, 1, none⟩) (Kd.R_far (p := ⟨gbBX, 0, none⟩) (Kd.R_mono HO_5.out (fun k_ hk => (⟨hk, hk.2⟩ : _ ∧ k_ ≠ gbBX))) (fun _ hk => hk.2) (.int .i64 ((rd_T38 x8_8 x45_3).f0))) (fun _ hk => hk.2) (.int .i64 ((rd_T38 x8_8 x45_3).f1))) (fun _ hk => hk.2) (.int .i64 ((rd_T38 x8_8 x45_3).f2))) (fun _ hk => hk.2) (.int .i64 ((rd_T38 x8_8 x45_3).f3))) (fun _ h_ => h_.1))) hb); have n1_ := Aside0.mk (Kd.R_below (by (with_reducible repeat (first | apply Kd.R_alloc | apply Kd.R_drewN | apply Kd.R_drew)); exact (Kd.R_mono (Kd.R_far (p := ⟨gbBX, 3, none⟩) (Kd.R_far (p := ⟨gbBX, 2, none⟩) (Kd.R_far (p := ⟨gbBX, 1, none⟩) (Kd.R_far (p := ⟨gbBX, 0, none⟩) (Kd.R_mono HO_43.out (fun k_ hk => (⟨hk, hk.2⟩ : _ ∧ k_ ≠ gbBX))) (fun _ hk => hk.2) (.int .i64 ((rd_T38 x8_8 x45_3).f0))) (fun _ hk => hk.2) (.int .i64 ((rd_T38 x8_8 x45_3).f1))) (fun _ hk => hk.2) (.int .i64 ((rd_T38 x8_8 x45_3).f2))) (fun _ hk => hk.2) (.int .i64 ((rd_T38 x8_8 x45_3).f3))) (fun _ h_ => h_.1))) hb); have n2_ := Aside0.mk (blk_below (g := gbBH) (o := .cells #[.int .i64 ((rd_T38 l0 x17_1).f0), .int .i64 ((rd_T38 l0 x17_1).f1), .int .i64 ((rd_T38 l0 x17_1).f2), .int .i64 ((rd_T38 l0 x17_1).f3)] 38 (0, 0)) (by (with_reducible repeat (first | refine blk_drewN ?_ _ | refine blk_drew ?_ | refine blk_alloc ?_ _)); refine blk_farU ?_ NBBH_BX.out _; refine blk_farU ?_ NBBH_BX.out _; refine blk_farU ?_ NBBH_BX.out _; refine blk_farU ?_ NBBH_BX.out _; exact BKBH.out) hb); have n3_ := Aside0.mk (blk_below (g := gbBX) (o := .cells #[.int .i64 ((rd_T38 x8_8 x45_3).f0), .int .i64 ((rd_T38 x8_8 x45_3).f1), .int .i64 ((rd_T38 x8_8 x45_3).f2), .int .i64 ((rd_T38 x8_8 x45_3).f3)] 38 (0, 0)) (by (with_reducible repeat (first | refine blk_drewN ?_ _ | refine blk_drew ?_ | refine blk_alloc ?_ _)); refine blk_put (cs := #[.int .i64 ((rd_T38 x8_8 x45_3).f0), .int .i64 ((rd_T38 x8_8 x45_3).f1), .int .i64 ((rd_T38 x8_8 x45_3).f2), .int .i64 0]) ?_ 3 _ rfl; refine blk_put (cs := #[.int .i64 ((rd_T38 x8_8 x45_3).f0), .int .i64 ((rd_T38 x8_8 x45_3).f1), .int .i64 0, .int .i64 0]) ?_ 2 _ rfl; refine blk_put (cs := #[.int .i64 ((rd_T38 x8_8 x45_3).f0), .int .i64 0, .int .i64 0, .int .i64 0]) ?_ 1 _ rfl; refine blk_putU (cs := #[.int .i64 0, .int .i64 0, .int .i64 0, .int .i64 0]) ?_ 0 _ rfl; exact BKBX.out) hb); have n4_ := Aside0.mk (below_step belS hb); clear HO_5 HO_43 BKBH BKBX HB; revert n0_ n1_ n2_ n3_ n4_; intro HO_5 HO_43 BKBH BKBX HB; (try clear hb); (try clear hk)))
              go_roundg k3
              case measure => have := HK1.out; have := HJ8.out; have := HK3.out; omega
              case rel => exact ⟨(x5_3), (wrap64 (x45_3 + 1)), (by first | rfl | (simp; done) | (simp [*]; done)), H', ⟨by have := HK1.out; have := HJ8.out; have := HK3.out; omega⟩, ⟨by (with_reducible repeat (first | apply Kd.R_alloc | apply Kd.R_drewN | apply Kd.R_drew)); exact Kd.R_mono HO_5.out (fun _ hk => ⟨hk.1.1, hk.1.2⟩)⟩, ⟨by (with_reducible repeat (first | apply Kd.R_alloc | apply Kd.R_drewN | apply Kd.R_drew)); exact Kd.R_mono HO_43.out (fun _ hk => ⟨hk.1.1, hk.1.2⟩)⟩, ⟨by (with_reducible repeat (first | refine blk_drewN ?_ _ | refine blk_drew ?_ | refine blk_alloc ?_ _)); exact BKBH.out⟩, ⟨by exact belS⟩⟩
             ·replace c31 := Bool.eq_false_iff.mpr c31
              subst c31
              have H1 : (if x5_3.length < 4398046511104 then (impl_behind.l2 k3 a1 (x5_3 ++ [(⟨(rd_T38 x8_8 x45_3).f0, (rd_T38 x8_8 x45_3).f1, (rd_T38 x8_8 x45_3).f2, (rd_T38 x8_8 x45_3).f3⟩ : S38)]) l0 (l0.length : Int) x17_1 x8_8 (x8_8.length : Int) (wrap64 (x45_3 + 1))) else (none)) = some r := by rw [if_neg (show ¬ (false = true) by decide)] at H; exact H
              clear H
              have H := H1
              clear H1
              by_cases c37 : x5_3.length < 4398046511104
              ·rw [if_pos c37] at H
               have LMc37 := Aside0.mk c37
               clear c37
               obtain ⟨yBZ, hyBZ⟩ : ∃ y_ : List (S38), y_ = (x5_3 ++ [(⟨(rd_T38 x8_8 x45_3).f0, (rd_T38 x8_8 x45_3).f1, (rd_T38 x8_8 x45_3).f2, (rd_T38 x8_8 x45_3).f3⟩ : S38)]) := ⟨_, rfl⟩
               replace H : (impl_behind.l2 k3 a1 yBZ l0 (l0.length : Int) x17_1 x8_8 (x8_8.length : Int) (wrap64 (x45_3 + 1))) = some r := by first | (rw [hyBZ]; with_reducible exact H) | (have H2_ := (Option.bind_some _ _).symm.trans H; rw [hyBZ]; with_reducible exact H2_) | (have H2_ := (Option.bind_some _ _).symm.trans H; with_reducible exact H2_) | with_reducible exact H | (rw [hyBZ]; exact H) | exact H
               have NyBZ := Aside0.mk hyBZ
               clear hyBZ
               have H' := Aside0.mk H
               clear H
               have pBW : 0 ≤ (x45_3 : Int) := of_decide_eq_true (by first | (with_reducible assumption) | assumption)
               have qBW : x45_3 < (x8_8.length : Int) := of_decide_eq_true (by first | (with_reducible assumption) | assumption)
               obtain ⟨adBW, eBW, hxBW_0, hxBW_1, hxBW_2, hxBW_3⟩ := at_T38 (Kd.R_reads' HO_43.out).2.2 x45_3 pBW qBW
               cases eBW
               replace pBW := eq_true pBW
               replace qBW := eq_true qBW
               go_wp2_with (first | ((with_reducible refine gate_dst (N := 13) rfl ?_); refine box_event ?hg (N := 13) ?hd (cs := #[.int .i64 0, .int .i64 0, .int .i64 0, .int .i64 0]) (t := 38) ?hr ?_; (case hd => rfl); (case hg => rfl); (case hr => first | (go_simp; done) | (go_simp; rfl)); intro gbBX hg w38 hbox hb; have n0_ := Aside0.mk (Kd.R_below (Kd.R_elderB (Kd.R_up HO_5.out) gbBX (Nat.le_of_eq hg.symm)) hb); have n1_ := Aside0.mk (Kd.R_below (Kd.R_elderB (Kd.R_up HO_43.out) gbBX (Nat.le_of_eq hg.symm)) hb); have n2_ := Aside0.mk (blk_below (blk_up BKBH.out) hb); have n3_ := Aside0.mk (below_step belS hb); have n4_ := Aside0.mk (hbox); have n5_ := Aside0.mk (geS hg : w.heap.size ≤ gbBX); have n6_ := n5_; have n7_ := Aside0.mk ((by rw [hg]; exact Nat.ne_of_lt (blk_lt (blk_up BKBH.out)) : gbBH ≠ gbBX)); have n8_ := Aside0.mk ((by rw [hg]; exact Nat.ne_of_gt (blk_lt (blk_up BKBH.out)) : gbBX ≠ gbBH)); clear HO_5 HO_43 BKBH HB; revert n0_ n1_ n2_ n3_ n4_ n5_ n6_ n7_ n8_; intro HO_5 HO_43 BKBH HB BKBX GWBX GEBX NBBH_BX NBBX_BH; clear hb hbox hg; have hnb39 := NBBX_BH.out; have hnc39 := NBBH_BX.out; obtain ⟨hcz40_0, hcz40_1, hcz40_2, hcz40_3, hfz40_0, hfz40_1, hfz40_2, hfz40_3⟩ := blk4 BKBX.out; obtain ⟨Ao41, co41, eo41⟩ := Kd.R_slice HO_5.out; subst eo41) | ((with_reducible refine gate_callee (f := 30) rfl ?_); refine goesL_ (some 51) rfl rfl Try.func30 (by kernel_rfl) rfl #[.slice Ao41 x5_3.length co41, .agg #[.int .i64 ((rd_T38 x8_8 x45_3).f0), .int .i64 ((rd_T38 x8_8 x45_3).f1), .int .i64 ((rd_T38 x8_8 x45_3).f2), .int .i64 ((rd_T38 x8_8 x45_3).f3)]] rfl argS ?_; (with_reducible refine (impl_twins_30.calls k3 _ _ x5_3 ((rd_T38 x8_8 x45_3).f0) ((rd_T38 x8_8 x45_3).f1) ((rd_T38 x8_8 x45_3).f2) ((rd_T38 x8_8 x45_3).f3) false _ ?side1 ?side2 A30.out).mono ?_); (case side1 => refine (Kd.R_reads' (e := 38) (base := w.heap.size) (ok := fun k_ => ((some k_ ≠ (.slice (some adBW) x8_8.length co26 : Value).ownBlock ∧ k_ ≠ gbBH) ∧ k_ ≠ gbBX)) (n := x5_3.length) (c := co41) ?_).2.2; exact (by (with_reducible repeat (first | apply Kd.R_alloc | apply Kd.R_drewN | apply Kd.R_drew)); exact (Kd.R_mono (Kd.R_far (p := ⟨gbBX, 3, none⟩) (Kd.R_far (p := ⟨gbBX, 2, none⟩) (Kd.R_far (p := ⟨gbBX, 1, none⟩) (Kd.R_far (p := ⟨gbBX, 0, none⟩) (Kd.R_mono HO_5.out (fun k_ hk => (⟨hk, hk.2⟩ : _ ∧ k_ ≠ gbBX))) (fun _ hk => hk.2) (.int .i64 ((rd_T38 x8_8 x45_3).f0))) (fun _ hk => hk.2) (.int .i64 ((rd_T38 x8_8 x45_3).f1))) (fun _ hk => hk.2) (.int .i64 ((rd_T38 x8_8 x45_3).f2))) (fun _ hk => hk.2) (.int .i64 ((rd_T38 x8_8 x45_3).f3))) (fun _ h_ => h_.1)))); (case side2 => exact (Kd.R_reads' HO_5.out).2.1); rintro e w42 ⟨rfl, hb⟩; refine ⟨_, rfl, ?_⟩; have n0_ := Aside0.mk (Kd.R_below (by (with_reducible repeat (first | apply Kd.R_alloc | apply Kd.R_drewN | apply Kd.R_drew)); exact (Kd.R_mono (Kd.R_far (p := ⟨gbBX, 3, none⟩) (Kd.R_far (p := ⟨gbBX, 2, none⟩) (Kd.R_far (p := ⟨gbBX, 1, none⟩) (Kd.R_far (p := ⟨gbBX, 0, none⟩) (Kd.R_mono HO_5.out (fun k_ hk => (⟨hk, hk.2⟩ : _ ∧ k_ ≠ gbBX))) (fun _ hk => hk.2) (.int .i64 ((rd_T38 x8_8 x45_3).f0))) (fun _ hk => hk.2) (.int .i64 ((rd_T38 x8_8 x45_3).f1))) (fun _ hk => hk.2) (.int .i64 ((rd_T38 x8_8 x45_3).f2))) (fun _ hk => hk.2) (.int .i64 ((rd_T38 x8_8 x45_3).f3))) (fun _ h_ => h_.1))) hb); have n1_ := Aside0.mk (Kd.R_below (by (with_reducible repeat (first | apply Kd.R_alloc | apply Kd.R_drewN | apply Kd.R_drew)); exact (Kd.R_mono (Kd.R_far (p := ⟨gbBX, 3, none⟩) (Kd.R_far (p := ⟨gbBX, 2, none⟩) (Kd.R_far (p := ⟨gbBX, 1, none⟩) (Kd.R_far (p := ⟨gbBX, 0, none⟩) (Kd.R_mono HO_43.out (fun k_ hk => (⟨hk, hk.2⟩ : _ ∧ k_ ≠ gbBX))) (fun _ hk => hk.2) (.int .i64 ((rd_T38 x8_8 x45_3).f0))) (fun _ hk => hk.2) (.int .i64 ((rd_T38 x8_8 x45_3).f1))) (fun _ hk => hk.2) (.int .i64 ((rd_T38 x8_8 x45_3).f2))) (fun _ hk => hk.2) (.int .i64 ((rd_T38 x8_8 x45_3).f3))) (fun _ h_ => h_.1))) hb); have n2_ := Aside0.mk (blk_below (g := gbBH) (o := .cells #[.int .i64 ((rd_T38 l0 x17_1).f0), .int .i64 ((rd_T38 l0 x17_1).f1), .int .i64 ((rd_T38 l0 x17_1).f2), .int .i64 ((rd_T38 l0 x17_1).f3)] 38 (0, 0)) (by (with_reducible repeat (first | refine blk_drewN ?_ _ | refine blk_drew ?_ | refine blk_alloc ?_ _)); refine blk_farU ?_ NBBH_BX.out _; refine blk_farU ?_ NBBH_BX.out _; refine blk_farU ?_ NBBH_BX.out _; refine blk_farU ?_ NBBH_BX.out _; exact BKBH.out) hb); have n3_ := Aside0.mk (blk_below (g := gbBX) (o := .cells #[.int .i64 ((rd_T38 x8_8 x45_3).f0), .int .i64 ((rd_T38 x8_8 x45_3).f1), .int .i64 ((rd_T38 x8_8 x45_3).f2), .int .i64 ((rd_T38 x8_8 x45_3).f3)] 38 (0, 0)) (by (with_reducible repeat (first | refine blk_drewN ?_ _ | refine blk_drew ?_ | refine blk_alloc ?_ _)); refine blk_put (cs := #[.int .i64 ((rd_T38 x8_8 x45_3).f0), .int .i64 ((rd_T38 x8_8 x45_3).f1), .int .i64 ((rd_T38 x8_8 x45_3).f2), .int .i64 0]) ?_ 3 _ rfl; refine blk_put (cs := #[.int .i64 ((rd_T38 x8_8 x45_3).f0), .int .i64 ((rd_T38 x8_8 x45_3).f1), .int .i64 0, .int .i64 0]) ?_ 2 _ rfl; refine blk_put (cs := #[.int .i64 ((rd_T38 x8_8 x45_3).f0), .int .i64 0, .int .i64 0, .int .i64 0]) ?_ 1 _ rfl; refine blk_putU (cs := #[.int .i64 0, .int .i64 0, .int .i64 0, .int .i64 0]) ?_ 0 _ rfl; exact BKBX.out) hb); have n4_ := Aside0.mk (below_step belS hb); clear HO_5 HO_43 BKBH BKBX HB; revert n0_ n1_ n2_ n3_ n4_; intro HO_5 HO_43 BKBH BKBX HB; (try clear hb); (try clear hk); obtain ⟨hcz43_0, hcz43_1, hcz43_2, hcz43_3, hfz43_0, hfz43_1, hfz43_2, hfz43_3⟩ := blk4 BKBX.out) | ((with_reducible refine gate_builtin (b := .append) (xs := #[.tmp 53, .tmp 55]) rfl ?_); at_builtin; refine Kd.R_append k38 (w0 := w) w.heap.size rfl (.tmp 53) (.tmp 55) 44 38 (.agg #[(.int .i64 0), (.int .i64 0), (.int .i64 0), (.int .i64 0)]) 32 rfl Try.underlying44 info38 rfl (by decide) (by omega) (.slice Ao41 x5_3.length co41) x5_3 (⟨(rd_T38 x8_8 x45_3).f0, (rd_T38 x8_8 x45_3).f1, (rd_T38 x8_8 x45_3).f2, (rd_T38 x8_8 x45_3).f3⟩ : S38) [.int .i64 ((rd_T38 x8_8 x45_3).f0), .int .i64 ((rd_T38 x8_8 x45_3).f1), .int .i64 ((rd_T38 x8_8 x45_3).f2), .int .i64 ((rd_T38 x8_8 x45_3).f3)] (fun k_ => some k_ ≠ (.slice (some adBW) x8_8.length co26 : Value).ownBlock ∧ k_ ≠ gbBH ∧ k_ ≠ gbBX) (fun _ => False) rfl rfl ?aP (fun _ hk => hk.elim) ?aF ?aO ?aB ?aS ?aL ?_; (case aP => exact k38_mkM _ _ _ (⟨(rd_T38 x8_8 x45_3).f0, (rd_T38 x8_8 x45_3).f1, (rd_T38 x8_8 x45_3).f2, (rd_T38 x8_8 x45_3).f3⟩ : S38)); (case aB => exact belS); (case aF => exact (fun k_ hk => ⟨Kd.fresh' (Kd.R_lt (Kd.R_up HO_43.out)) k_ hk, Kd.freshB (g := gbBH) (o := .cells #[.int .i64 ((rd_T38 l0 x17_1).f0), .int .i64 ((rd_T38 l0 x17_1).f1), .int .i64 ((rd_T38 l0 x17_1).f2), .int .i64 ((rd_T38 l0 x17_1).f3)] 38 (0, 0)) (blk_up BKBH.out) k_ hk, Kd.freshB (g := gbBX) (o := .cells #[.int .i64 ((rd_T38 x8_8 x45_3).f0), .int .i64 ((rd_T38 x8_8 x45_3).f1), .int .i64 ((rd_T38 x8_8 x45_3).f2), .int .i64 ((rd_T38 x8_8 x45_3).f3)] 38 (0, 0)) (blk_up BKBX.out) k_ hk⟩)); (case aO => exact (by (with_reducible repeat (first | apply Kd.R_alloc | apply Kd.R_drewN | apply Kd.R_drew)); exact Kd.R_mono HO_5.out (fun _ hk => ⟨hk.1.1, ⟨hk.1.2, hk.2⟩⟩))); (case aS => exact (below_size belS)); (case aL => have := LMc37.out; omega); intro vC0 w44 ho hb hg hat; rw [← NyBZ.out] at ho; have n0_ := Aside0.mk (Kd.R_after (ok := (fun k_ => k_ ≠ gbBH ∧ k_ ≠ gbBX)) (by (with_reducible repeat (first | apply Kd.R_alloc | apply Kd.R_drewN | apply Kd.R_drew)); exact Kd.R_mono HO_43.out (fun _ hk => ⟨⟨hk.1.2, hk.2⟩, hk.1.1⟩)) hg hat); have n1_ := Aside0.mk (blk_grown (g := gbBH) (o := .cells #[.int .i64 ((rd_T38 l0 x17_1).f0), .int .i64 ((rd_T38 l0 x17_1).f1), .int .i64 ((rd_T38 l0 x17_1).f2), .int .i64 ((rd_T38 l0 x17_1).f3)] 38 (0, 0)) (blk_up BKBH.out) hg (Kd.R_away HO_5.out (fun _ hk => hk.1.2))); have n2_ := Aside0.mk (blk_grown (g := gbBX) (o := .cells #[.int .i64 ((rd_T38 x8_8 x45_3).f0), .int .i64 ((rd_T38 x8_8 x45_3).f1), .int .i64 ((rd_T38 x8_8 x45_3).f2), .int .i64 ((rd_T38 x8_8 x45_3).f3)] 38 (0, 0)) (blk_up BKBX.out) hg (Kd.R_away HO_5.out (fun _ hk => hk.2))); have n3_ := Aside0.mk (hb); have n4_ := Aside0.mk (ho); clear HO_43 BKBH BKBX HB HO_5; revert n0_ n1_ n2_ n3_ n4_; intro HO_43 BKBH BKBX HB HOC1; clear ho hb hg hat))
               go_roundg k3
               case measure => have := HK1.out; have := HJ8.out; have := HK3.out; omega
               case rel => exact ⟨(yBZ), (wrap64 (x45_3 + 1)), (by first | rfl | (simp; done) | (simp [*]; done)), H', ⟨by have := HK1.out; have := HJ8.out; have := HK3.out; omega⟩, ⟨by (with_reducible repeat (first | apply Kd.R_alloc | apply Kd.R_drewN | apply Kd.R_drew)); exact Kd.R_mono HOC1.out (fun _ hk => ⟨hk.1, hk.2.1⟩)⟩, ⟨by (with_reducible repeat (first | apply Kd.R_alloc | apply Kd.R_drewN | apply Kd.R_drew)); exact Kd.R_mono HO_43.out (fun _ hk => ⟨hk.2, hk.1.1⟩)⟩, ⟨by (with_reducible repeat (first | refine blk_drewN ?_ _ | refine blk_drew ?_ | refine blk_alloc ?_ _)); exact BKBH.out⟩, ⟨by exact belS⟩⟩
              ·rw [if_neg c37] at H
               exact absurd H (by simp)
            ·rw [if_neg c29] at H
             exact absurd H (by simp)
           ·rw [if_neg c28] at H
            exact absurd H (by simp)
          ·rw [if_neg c27] at H
           have c27b0 : decide (x45_3 < (x8_8.length : Int)) = false := decide_eq_false c27
           clear c27
           have H' := Aside0.mk H
           clear H
           go_wp2
           go_roundg k3
           case measure => have := HK1.out; have := HJ8.out; have := HK3.out; omega
           case rel => exact ⟨(x5_3), (wrap64 (x17_1 + 1)), (by first | rfl | (simp; done) | (simp [*]; done)), H', ⟨by have := HK1.out; have := HJ8.out; have := HK3.out; omega⟩, ⟨by (with_reducible repeat (first | apply Kd.R_alloc | apply Kd.R_drewN | apply Kd.R_drew)); exact Kd.R_mono HO_5.out (fun _ hk => trivial)⟩, ⟨by exact belS⟩⟩
     ·rw [if_neg c7] at H
      exact absurd H (by simp)
    ·rw [if_neg c6] at H
     exact absurd H (by simp)
   ·rw [if_neg c5] at H
    have c5b0 : decide (x17_1 < (l0.length : Int)) = false := decide_eq_false c5
    clear c5
    obtain rfl := Option.some.inj H
    go_wp2
    go_ret
    exact ⟨_, by first | rfl | (simp [errW_none, errW_some] <;> rfl) | (simp [*, errW_none, errW_some] <;> rfl), by (with_reducible repeat (first | apply Kd.R_alloc | apply Kd.R_drewN | apply Kd.R_drew)); exact HO_5.out, by exact belS⟩

end Go.Proofs.Ytogfijfhjdjhpaa.Pr
