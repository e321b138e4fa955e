/- Proved here: spec.OtherRace: as printed by gen.py, the struct's stores taken as one. -/
import Derived.Test.YtkobjjadojpjfaaF0
import Derived.Test.YtkobjjadojpjfaaFSpecRaGood
import Derived.Test.YtkobjjadojpjfaaFSpecRaOwn
namespace Go.Proofs.Ytkobjjadojpjfaa.Pr
open Go.RowKit Go.Proofs.YtkobjjadojpjfaaW.PrintWords Go.Proofs.YtkobjjadojpjfaaW.PrintLast Go.Proofs.YtkobjjadojpjfaaW.PrintMore
attribute [local go_sem] max2_int min2_int max_two min_two max_three min_three max_four min_four   -- for this text's walks alone
set_option linter.unusedVariables false
set_option linter.unusedSimpArgs false

/-! ### spec_OtherRace: function 73 -/

/-- W is w with the block g's cells written anew -/
def Cells (w W : World) (g : Nat) (cs : Array Value) (t : TypeId) : Prop := W.heap[g]? = some (.cells cs t (0, 0)) ∧ (∀ k, k ≠ g → W.heap[k]? = w.heap[k]?) ∧ (∀ B, ∀ v, B ≤ g → Below B v w → Below B v W)
theorem Cells.blk {w W : World} {g g' t : Nat} {cs : Array Value} {o : Obj} (h : Cells w W g cs t) (k : w.heap[g']? = some o) (hn : g' ≠ g) : W.heap[g']? = some o := (h.2.1 g' hn).trans k
theorem Cells.R {α : Type} {d : Kd α} {e base : Nat} {ok : Nat → Prop} {w W : World} {v : Value} {xs : List α} {g t : Nat} {cs : Array Value} (h : Cells w W g cs t) (k : Kd.R d e w base ok v xs) (hok : ∀ k, ok k → k ≠ g) : Kd.R d e W base ok v xs := Kd.R_step k (fun j ho _ => h.2.1 j (hok j ho))
theorem cells_one {w w1 : World} {g t : Nat} {cs cs' : Array Value} (h : Cells w w1 g cs t) (i : Nat) (u : Value) (e : cs.setIfInBounds i u = cs') : Cells w (w1.setCell ⟨g, i, none⟩ u) g cs' t :=
  ⟨blk_put h.1 i u e, fun k hk => (Below.heap_setCell w1 ⟨g, i, none⟩ u k hk).trans (h.2.1 k hk), fun B v hB hb => (h.2.2 B v hB hb).setCell hB u⟩
theorem cells_none {w : World} {g t : Nat} {cs : Array Value} (h : w.heap[g]? = some (.cells cs t (0, 0))) : Cells w w g cs t := ⟨h, fun _ _ => rfl, fun _ _ _ hb => hb⟩
theorem cells_all {w : World} {g t : Nat} {x0 x1 x2 x3 x4 x5 x6 : Value} {Q : World → Prop} (h : w.heap[g]? = some (.cells #[x0, x1, x2, x3, x4, x5, x6] t (0, 0))) (y0 y1 y2 y3 y4 y5 y6 : Value)
    (k : ∀ W, Cells w W g #[y0, y1, y2, y3, y4, y5, y6] t → Q W) :
    Q (((((((w.setCell ⟨g, 0, none⟩ y0).setCell ⟨g, 1, none⟩ y1).setCell ⟨g, 2, none⟩ y2).setCell ⟨g, 3, none⟩ y3).setCell ⟨g, 4, none⟩ y4).setCell ⟨g, 5, none⟩ y5).setCell ⟨g, 6, none⟩ y6) := by
  have c0 : Cells w _ g #[y0, x1, x2, x3, x4, x5, x6] t := cells_one (cells_none h) 0 _ rfl
  have c1 : Cells w _ g #[y0, y1, x2, x3, x4, x5, x6] t := cells_one c0 1 _ rfl
  have c2 : Cells w _ g #[y0, y1, y2, x3, x4, x5, x6] t := cells_one c1 2 _ rfl
  have c3 : Cells w _ g #[y0, y1, y2, y3, x4, x5, x6] t := cells_one c2 3 _ rfl
  have c4 : Cells w _ g #[y0, y1, y2, y3, y4, x5, x6] t := cells_one c3 4 _ rfl
  have c5 : Cells w _ g #[y0, y1, y2, y3, y4, y5, x6] t := cells_one c4 5 _ rfl
  have c6 : Cells w _ g #[y0, y1, y2, y3, y4, y5, y6] t := cells_one c5 6 _ rfl
  exact k _ c6
theorem cells_two {w : World} {g t : Nat} {x0 x1 x2 x3 x4 x5 x6 : Value} {Q : World → Prop} (h : w.heap[g]? = some (.cells #[x0, x1, x2, x3, x4, x5, x6] t (0, 0))) (y5 y6 : Value)
    (k : ∀ W, Cells w W g #[x0, x1, x2, x3, x4, y5, y6] t → Q W) :
    Q ((w.setCell ⟨g, 5, none⟩ y5).setCell ⟨g, 6, none⟩ y6) := by
  have c0 : Cells w _ g #[x0, x1, x2, x3, x4, y5, x6] t := cells_one (cells_none h) 5 _ rfl
  have c1 : Cells w _ g #[x0, x1, x2, x3, x4, y5, y6] t := cells_one c0 6 _ rfl
  exact k _ c1

def spec_OtherRace.f (k : Nat) (a0_0 : Int) (a0_1 : Int) (a0_2 : Int) (l0_3 : List (S27)) (a0_4 : Int) (a0_5 : Int) (a0_6 : Int) : Option (Int × Int × Int × (List (S27)) × Int × Int × Int × Bool) := (spec_raGood.f k a0_0 a0_1 a0_2 l0_3 a0_4 a0_5 a0_6).bind fun tBF => (if tBF = true then ((spec_raOwn.f a0_0 a0_1 a0_2 l0_3 a0_4 a0_5 a0_6).bind fun btBG => (some (btBG.1, btBG.2.1, btBG.2.2.1, btBG.2.2.2.1, btBG.2.2.2.2.1, a0_6, a0_5, true))) else (some (0, 0, 0, ([] : List (S27)), 0, 0, 0, false)))
set_option maxHeartbeats 8000000 in
set_option maxRecDepth 100000 in
theorem spec_OtherRace.calls (k : Nat) (a0_0 : Int) (a0_1 : Int) (a0_2 : Int) (A0_3 : Option Addr) (c0_3 : Nat) (l0_3 : List (S27)) (a0_4 : Int) (a0_5 : Int) (a0_6 : Int) (r1 : Int) (r2 : Int) (r3 : Int) (r4 : List (S27)) (r5 : Int) (r6 : Int) (r7 : Int) (r8 : Bool) (w : World) (hr0_3 : Kd.C k27 w A0_3 l0_3.length l0_3) (hc0_3 : l0_3.length ≤ c0_3) (h : spec_OtherRace.f k a0_0 a0_1 a0_2 l0_3 a0_4 a0_5 a0_6 = some (r1, r2, r3, r4, r5, r6, r7, r8)) :
  Calls Try.prog 73 #[.agg #[.int .i64 a0_0, .int .i64 a0_1, .int .i64 a0_2, .slice A0_3 l0_3.length c0_3, .int .i64 a0_4, .int .i64 a0_5, .int .i64 a0_6]] w fun e w' => ∃ v3_ : Value, e = .returned (.tuple #[.agg #[.int .i64 r1, .int .i64 r2, .int .i64 r3, v3_, .int .i64 r5, .int .i64 r6, .int .i64 r7], .bool r8]) ∧ Kd.R k27 27 w' w.heap.size (fun _ => True) v3_ r4 ∧ Below w.heap.size w w' := by
 have hu47 := Try.underlying47
 have HR0_3 := Aside0.mk hr0_3
 have HC0_3 := Aside0.mk hc0_3
 clear hr0_3 hc0_3
 have HB := Aside0.mk (Below.refl w.heap.size w)
 have H : ((spec_raGood.f k a0_0 a0_1 a0_2 l0_3 a0_4 a0_5 a0_6).bind fun tBF => (if tBF = true then ((spec_raOwn.f a0_0 a0_1 a0_2 l0_3 a0_4 a0_5 a0_6).bind fun btBG => (some (btBG.1, btBG.2.1, btBG.2.2.1, btBG.2.2.2.1, btBG.2.2.2.2.1, a0_6, a0_5, true))) else (some (0, 0, 0, ([] : List (S27)), 0, 0, 0, false)))) = some (r1, r2, r3, r4, r5, r6, r7, r8) := h
 clear h
 replace H := Option.bind_eq_some_iff.mp H
 obtain ⟨tBF, A20, H⟩ := H
 replace H : (if tBF = true then ((spec_raOwn.f a0_0 a0_1 a0_2 l0_3 a0_4 a0_5 a0_6).bind fun btBG => (some (btBG.1, btBG.2.1, btBG.2.2.1, btBG.2.2.2.1, btBG.2.2.2.2.1, a0_6, a0_5, true))) else (some (0, 0, 0, ([] : List (S27)), 0, 0, 0, false))) = some (r1, r2, r3, r4, r5, r6, r7, r8) := H
 have A2 := Aside0.mk A20
 clear A20
 by_cases c3 : tBF = true
 ·subst c3
  have H1 : ((spec_raOwn.f a0_0 a0_1 a0_2 l0_3 a0_4 a0_5 a0_6).bind fun btBG => (some (btBG.1, btBG.2.1, btBG.2.2.1, btBG.2.2.2.1, btBG.2.2.2.2.1, a0_6, a0_5, true))) = some (r1, r2, r3, r4, r5, r6, r7, r8) := by rw [if_pos rfl] at H; exact H
  clear H
  have H := H1
  clear H1
  replace H := Option.bind_eq_some_iff.mp H
  obtain ⟨⟨tBG, tBH, tBI, tBJ, tBM, tBN, tBO⟩, A40, H⟩ := H
  replace H : (some (tBG, tBH, tBI, tBJ, tBM, a0_6, a0_5, true)) = some (r1, r2, r3, r4, r5, r6, r7, r8) := H
  have A4 := Aside0.mk A40
  clear A40
  simp only [Option.some.injEq, Prod.mk.injEq] at H
  obtain ⟨rfl, rfl, rfl, rfl, rfl, rfl, rfl, rfl⟩ := H
  go_enter Try.func73, Try.ntmps73
  go_upto_region 4 with (first | ((with_reducible refine gate_dst (N := 1) rfl ?_); refine box_event ?hg (N := 1) ?hd (cs := #[.int .i64 a0_0, .int .i64 a0_1, .int .i64 a0_2, .slice A0_3 l0_3.length c0_3, .int .i64 a0_4, .int .i64 a0_5, .int .i64 a0_6]) (t := 47) ?hr ?_; (case hd => rfl); (case hg => rfl); (case hr => first | (go_simp; done) | (go_simp; rfl)); intro gbBD hg w5 hbox hb; have n0_ := Aside0.mk (below_step belS hb); have n1_ := Aside0.mk (hbox); have n2_ := Aside0.mk ((by rw [hg]; exact (below_size belS) : w.heap.size ≤ gbBD)); have n3_ := n2_; clear HB; have HB := n0_; have BKBD := n1_; have GWBD := n2_; have GEBD := n3_; clear n0_ n1_ n2_ n3_; clear hb hbox hg) | ((with_reducible refine gate_dst (N := 2) rfl ?_); refine box_event ?hg (N := 2) ?hd (cs := #[.int .i64 0, .int .i64 0, .int .i64 0, .slice none 0 0, .int .i64 0, .int .i64 0, .int .i64 0]) (t := 47) ?hr ?_; (case hd => rfl); (case hg => rfl); (case hr => first | (go_simp; done) | (go_simp; rfl)); intro gbBE hg w6 hbox hb; have n0_ := Aside0.mk (blk_below (blk_up BKBD.out) hb); have n1_ := Aside0.mk (below_step belS hb); have n2_ := Aside0.mk (hbox); have n3_ := Aside0.mk ((by rw [hg]; exact (below_size belS) : w.heap.size ≤ gbBE)); have n4_ := n3_; have n5_ := Aside0.mk ((by rw [hg]; exact Nat.ne_of_lt (blk_lt (blk_up BKBD.out)) : gbBD ≠ gbBE)); have n6_ := Aside0.mk ((by rw [hg]; exact Nat.ne_of_gt (blk_lt (blk_up BKBD.out)) : gbBE ≠ gbBD)); clear BKBD; clear HB; have BKBD := n0_; have HB := n1_; have BKBE := n2_; have GWBE := n3_; have GEBE := n4_; have NBBD_BE := n5_; have NBBE_BD := n6_; clear n0_ n1_ n2_ n3_ n4_ n5_ n6_; clear hb hbox hg; have hnb7 := NBBD_BE.out; have hnc7 := NBBE_BD.out; obtain ⟨hcz8_0, hcz8_1, hcz8_2, hcz8_3, hcz8_4, hcz8_5, hcz8_6, hfz8_0, hfz8_1, hfz8_2, hfz8_3, hfz8_4, hfz8_5, hfz8_6⟩ := blk7 BKBD.out) | ((with_reducible refine gate_callee (f := 133) rfl ?_); refine goesL_ (some 6) rfl rfl Try.func133 (by kernel_rfl) rfl #[.agg #[.int .i64 a0_0, .int .i64 a0_1, .int .i64 a0_2, .slice A0_3 l0_3.length c0_3, .int .i64 a0_4, .int .i64 a0_5, .int .i64 a0_6]] rfl argS ?_; (with_reducible refine (spec_raGood.calls k a0_0 a0_1 a0_2 _ _ l0_3 a0_4 a0_5 a0_6 true _ ?side1 ?side2 A2.out).mono ?_); (case side1 => exact Kd.C_up (Kd.C_below HR0_3.out HB.out)); (case side2 => exact HC0_3.out); rintro e w9 ⟨rfl, hb⟩; refine ⟨_, rfl, ?_⟩; have n0_ := Aside0.mk (blk_below (blk_up BKBD.out) hb); have n1_ := Aside0.mk (blk_below (blk_up BKBE.out) hb); have n2_ := Aside0.mk (below_step belS hb); clear BKBD; clear BKBE; clear HB; have BKBD := n0_; have BKBE := n1_; have HB := n2_; clear n0_ n1_ n2_; (try clear hb); (try clear hb2); (try clear hk); (try clear hi); obtain ⟨hcz10_0, hcz10_1, hcz10_2, hcz10_3, hcz10_4, hcz10_5, hcz10_6, hfz10_0, hfz10_1, hfz10_2, hfz10_3, hfz10_4, hfz10_5, hfz10_6⟩ := blk7 BKBD.out) | ((with_reducible refine gate_callee (f := 148) rfl ?_); refine goesL_ (some 10) rfl rfl Try.func148 (by kernel_rfl) rfl #[.agg #[.int .i64 a0_0, .int .i64 a0_1, .int .i64 a0_2, .slice A0_3 l0_3.length c0_3, .int .i64 a0_4, .int .i64 a0_5, .int .i64 a0_6]] rfl argS ?_; (with_reducible refine (spec_raOwn.calls a0_0 a0_1 a0_2 _ _ l0_3 a0_4 a0_5 a0_6 tBG tBH tBI tBJ tBM tBN tBO _ ?side1 ?side2 A4.out).mono ?_); (case side1 => exact Kd.C_up (Kd.C_below HR0_3.out HB.out)); (case side2 => exact HC0_3.out); rintro e w11 ⟨vBK, rfl, ho0, hb⟩; refine ⟨_, rfl, ?_⟩; have n0_ := Aside0.mk (Kd.R_lower ho0 (below_size belS)); have n1_ := Aside0.mk (blk_below (blk_up BKBD.out) hb); have n2_ := Aside0.mk (blk_below (blk_up BKBE.out) hb); have n3_ := Aside0.mk (below_step belS hb); clear BKBD; clear BKBE; clear HB; have HOBL := n0_; have BKBD := n1_; have BKBE := n2_; have HB := n3_; clear n0_ n1_ n2_ n3_; (try clear hb); (try clear hb2); (try clear hk); (try clear hi); (try clear ho0)) | ((with_reducible refine gate_dst (N := 4) rfl ?_); refine box_event ?hg (N := 4) ?hd (cs := #[.int .i64 0, .int .i64 0, .int .i64 0, .slice none 0 0, .int .i64 0, .int .i64 0, .int .i64 0]) (t := 47) ?hr ?_; (case hd => rfl); (case hg => rfl); (case hr => first | (go_simp; done) | (go_simp; rfl)); intro gbBP hg w12 hbox hb; have n0_ := Aside0.mk (Kd.R_below (Kd.R_up HOBL.out) hb); have n1_ := Aside0.mk (blk_below (blk_up BKBD.out) hb); have n2_ := Aside0.mk (blk_below (blk_up BKBE.out) hb); have n3_ := Aside0.mk (below_step belS hb); have n4_ := Aside0.mk (hbox); have n5_ := Aside0.mk ((by rw [hg]; exact (below_size belS) : w.heap.size ≤ gbBP)); have n6_ := n5_; have n7_ := Aside0.mk ((by rw [hg]; exact Nat.ne_of_lt (blk_lt (blk_up BKBD.out)) : gbBD ≠ gbBP)); have n8_ := Aside0.mk ((by rw [hg]; exact Nat.ne_of_gt (blk_lt (blk_up BKBD.out)) : gbBP ≠ gbBD)); have n9_ := Aside0.mk ((by rw [hg]; exact Nat.ne_of_lt (blk_lt (blk_up BKBE.out)) : gbBE ≠ gbBP)); have n10_ := Aside0.mk ((by rw [hg]; exact Nat.ne_of_gt (blk_lt (blk_up BKBE.out)) : gbBP ≠ gbBE)); clear HOBL; clear BKBD; clear BKBE; clear HB; have HOBL := n0_; have BKBD := n1_; have BKBE := n2_; have HB := n3_; have BKBP := n4_; have GWBP := n5_; have GEBP := n6_; have NBBD_BP := n7_; have NBBP_BD := n8_; have NBBE_BP := n9_; have NBBP_BE := n10_; clear n0_ n1_ n2_ n3_ n4_ n5_ n6_ n7_ n8_ n9_ n10_; clear hb hbox hg; have hnb13 := NBBP_BD.out; have hnc13 := NBBD_BP.out; have hnb14 := NBBP_BE.out; have hnc14 := NBBE_BP.out; obtain ⟨hcz15_0, hcz15_1, hcz15_2, hcz15_3, hcz15_4, hcz15_5, hcz15_6, hfz15_0, hfz15_1, hfz15_2, hfz15_3, hfz15_4, hfz15_5, hfz15_6⟩ := blk7 BKBP.out; obtain ⟨Ao16, co16, eo16⟩ := Kd.R_slice HOBL.out; subst eo16; obtain ⟨hcz17_0, hcz17_1, hcz17_2, hcz17_3, hcz17_4, hcz17_5, hcz17_6, hfz17_0, hfz17_1, hfz17_2, hfz17_3, hfz17_4, hfz17_5, hfz17_6⟩ := blk7 BKBD.out; obtain ⟨hcz18_0, hcz18_1, hcz18_2, hcz18_3, hcz18_4, hcz18_5, hcz18_6, hfz18_0, hfz18_1, hfz18_2, hfz18_3, hfz18_4, hfz18_5, hfz18_6⟩ := blk7 BKBE.out))
  have n5_ := Aside0.mk (Kd.R_types (Kd.R_types HOBL.out BKBP.out (by decide)) BKBE.out (by decide))
  clear HOBL
  have HOBL := n5_
  clear n5_
  refine cells_all (Q := Code.wp _ _ _ _) BKBP.out (.int .i64 tBG) (.int .i64 tBH) (.int .i64 tBI) (.slice Ao16 tBJ.length co16) (.int .i64 tBM) (.int .i64 tBN) (.int .i64 tBO) ?_
  intro w13 hst
  have n0_ := Aside0.mk (hst.blk BKBD.out NBBD_BP.out)
  have n1_ := Aside0.mk (hst.blk BKBE.out NBBE_BP.out)
  have n2_ := Aside0.mk hst.1
  have n3_ := Aside0.mk (hst.R HOBL.out (fun _ hk => hk.1.2))
  have n4_ := Aside0.mk (hst.2.2 _ _ GEBP.out HB.out)
  clear hst BKBD BKBE BKBP HOBL HB
  have BKBD := n0_
  have BKBE := n1_
  have BKBP := n2_
  have HOBL := n3_
  have HB := n4_
  clear n0_ n1_ n2_ n3_ n4_
  try clear hcz8_0
  try clear hcz8_1
  try clear hcz8_2
  try clear hcz8_3
  try clear hcz8_4
  try clear hcz8_5
  try clear hcz8_6
  try clear hfz8_0
  try clear hfz8_1
  try clear hfz8_2
  try clear hfz8_3
  try clear hfz8_4
  try clear hfz8_5
  try clear hfz8_6
  try clear hcz10_0
  try clear hcz10_1
  try clear hcz10_2
  try clear hcz10_3
  try clear hcz10_4
  try clear hcz10_5
  try clear hcz10_6
  try clear hfz10_0
  try clear hfz10_1
  try clear hfz10_2
  try clear hfz10_3
  try clear hfz10_4
  try clear hfz10_5
  try clear hfz10_6
  try clear hcz15_0
  try clear hcz15_1
  try clear hcz15_2
  try clear hcz15_3
  try clear hcz15_4
  try clear hcz15_5
  try clear hcz15_6
  try clear hfz15_0
  try clear hfz15_1
  try clear hfz15_2
  try clear hfz15_3
  try clear hfz15_4
  try clear hfz15_5
  try clear hfz15_6
  try clear hcz17_0
  try clear hcz17_1
  try clear hcz17_2
  try clear hcz17_3
  try clear hcz17_4
  try clear hcz17_5
  try clear hcz17_6
  try clear hfz17_0
  try clear hfz17_1
  try clear hfz17_2
  try clear hfz17_3
  try clear hfz17_4
  try clear hfz17_5
  try clear hfz17_6
  try clear hcz18_0
  try clear hcz18_1
  try clear hcz18_2
  try clear hcz18_3
  try clear hcz18_4
  try clear hcz18_5
  try clear hcz18_6
  try clear hfz18_0
  try clear hfz18_1
  try clear hfz18_2
  try clear hfz18_3
  try clear hfz18_4
  try clear hfz18_5
  try clear hfz18_6
  obtain ⟨hcq1a_0, hcq1a_1, hcq1a_2, hcq1a_3, hcq1a_4, hcq1a_5, hcq1a_6, hfq1a_0, hfq1a_1, hfq1a_2, hfq1a_3, hfq1a_4, hfq1a_5, hfq1a_6⟩ := blk7 BKBD.out
  obtain ⟨hcq1b_0, hcq1b_1, hcq1b_2, hcq1b_3, hcq1b_4, hcq1b_5, hcq1b_6, hfq1b_0, hfq1b_1, hfq1b_2, hfq1b_3, hfq1b_4, hfq1b_5, hfq1b_6⟩ := blk7 BKBP.out
  obtain ⟨hcq1c_0, hcq1c_1, hcq1c_2, hcq1c_3, hcq1c_4, hcq1c_5, hcq1c_6, hfq1c_0, hfq1c_1, hfq1c_2, hfq1c_3, hfq1c_4, hfq1c_5, hfq1c_6⟩ := blk7 BKBE.out
  have hnb13 := NBBP_BD.out
  have hnc13 := NBBD_BP.out
  go_upto_region 6 with (fail)
  refine cells_two (Q := Code.wp _ _ _ _) BKBP.out (.int .i64 a0_6) (.int .i64 a0_5) ?_
  intro w14 hst
  have n0_ := Aside0.mk (hst.blk BKBD.out NBBD_BP.out)
  have n1_ := Aside0.mk (hst.blk BKBE.out NBBE_BP.out)
  have n2_ := Aside0.mk hst.1
  have n3_ := Aside0.mk (hst.R HOBL.out (fun _ hk => hk.1.2))
  have n4_ := Aside0.mk (hst.2.2 _ _ GEBP.out HB.out)
  clear hst BKBD BKBE BKBP HOBL HB
  have BKBD := n0_
  have BKBE := n1_
  have BKBP := n2_
  have HOBL := n3_
  have HB := n4_
  clear n0_ n1_ n2_ n3_ n4_
  try clear hcq1a_0
  try clear hcq1a_1
  try clear hcq1a_2
  try clear hcq1a_3
  try clear hcq1a_4
  try clear hcq1a_5
  try clear hcq1a_6
  try clear hcq1b_0
  try clear hcq1b_1
  try clear hcq1b_2
  try clear hcq1b_3
  try clear hcq1b_4
  try clear hcq1b_5
  try clear hcq1b_6
  try clear hcq1c_0
  try clear hcq1c_1
  try clear hcq1c_2
  try clear hcq1c_3
  try clear hcq1c_4
  try clear hcq1c_5
  try clear hcq1c_6
  try clear hfq1a_0
  try clear hfq1a_1
  try clear hfq1a_2
  try clear hfq1a_3
  try clear hfq1a_4
  try clear hfq1a_5
  try clear hfq1a_6
  try clear hfq1b_0
  try clear hfq1b_1
  try clear hfq1b_2
  try clear hfq1b_3
  try clear hfq1b_4
  try clear hfq1b_5
  try clear hfq1b_6
  try clear hfq1c_0
  try clear hfq1c_1
  try clear hfq1c_2
  try clear hfq1c_3
  try clear hfq1c_4
  try clear hfq1c_5
  try clear hfq1c_6
  obtain ⟨hcq2a_0, hcq2a_1, hcq2a_2, hcq2a_3, hcq2a_4, hcq2a_5, hcq2a_6, hfq2a_0, hfq2a_1, hfq2a_2, hfq2a_3, hfq2a_4, hfq2a_5, hfq2a_6⟩ := blk7 BKBD.out
  obtain ⟨hcq2b_0, hcq2b_1, hcq2b_2, hcq2b_3, hcq2b_4, hcq2b_5, hcq2b_6, hfq2b_0, hfq2b_1, hfq2b_2, hfq2b_3, hfq2b_4, hfq2b_5, hfq2b_6⟩ := blk7 BKBP.out
  obtain ⟨hcq2c_0, hcq2c_1, hcq2c_2, hcq2c_3, hcq2c_4, hcq2c_5, hcq2c_6, hfq2c_0, hfq2c_1, hfq2c_2, hfq2c_3, hfq2c_4, hfq2c_5, hfq2c_6⟩ := blk7 BKBE.out
  go_wp2
  have c0 : Cells w14 _ gbBE #[.int .i64 tBG, .int .i64 0, .int .i64 0, .slice none 0 0, .int .i64 0, .int .i64 0, .int .i64 0] 47 := cells_one (cells_none BKBE.out) 0 _ rfl
  have c1 : Cells w14 _ gbBE #[.int .i64 tBG, .int .i64 tBH, .int .i64 0, .slice none 0 0, .int .i64 0, .int .i64 0, .int .i64 0] 47 := cells_one c0 1 _ rfl
  have c2 : Cells w14 _ gbBE #[.int .i64 tBG, .int .i64 tBH, .int .i64 tBI, .slice none 0 0, .int .i64 0, .int .i64 0, .int .i64 0] 47 := cells_one c1 2 _ rfl
  have c3 : Cells w14 _ gbBE #[.int .i64 tBG, .int .i64 tBH, .int .i64 tBI, .slice Ao16 tBJ.length co16, .int .i64 0, .int .i64 0, .int .i64 0] 47 := cells_one c2 3 _ rfl
  have c4 : Cells w14 _ gbBE #[.int .i64 tBG, .int .i64 tBH, .int .i64 tBI, .slice Ao16 tBJ.length co16, .int .i64 tBM, .int .i64 0, .int .i64 0] 47 := cells_one c3 4 _ rfl
  have c5 : Cells w14 _ gbBE #[.int .i64 tBG, .int .i64 tBH, .int .i64 tBI, .slice Ao16 tBJ.length co16, .int .i64 tBM, .int .i64 a0_6, .int .i64 0] 47 := cells_one c4 5 _ rfl
  have c6 : Cells w14 _ gbBE #[.int .i64 tBG, .int .i64 tBH, .int .i64 tBI, .slice Ao16 tBJ.length co16, .int .i64 tBM, .int .i64 a0_6, .int .i64 a0_5] 47 := cells_one c5 6 _ rfl
  refine bodyPost_ret (results_ct rfl _ _ gbBE 47 #[.int .i64 tBG, .int .i64 tBH, .int .i64 tBI, .slice Ao16 tBJ.length co16, .int .i64 tBM, .int .i64 a0_6, .int .i64 a0_5] (0, 0) _ rfl c6.1 Try.underlying47 rfl (by kernel_rfl)) rfl ?_
  exact ⟨_, by first | rfl | (simp [errW_none, errW_some] <;> rfl) | (simp [*, errW_none, errW_some] <;> rfl), Kd.R_mono (c6.R HOBL.out (fun _ hk => hk.2)) (fun _ hk => trivial), c6.2.2 _ _ GEBE.out HB.out⟩
 ·replace c3 := Bool.eq_false_iff.mpr c3
  subst c3
  have H1 : (some (0, 0, 0, ([] : List (S27)), 0, 0, 0, false)) = some (r1, r2, r3, r4, r5, r6, r7, r8) := by rw [if_neg (show ¬ (false = true) by decide)] at H; exact H
  clear H
  have H := H1
  clear H1
  simp only [Option.some.injEq, Prod.mk.injEq] at H
  obtain ⟨rfl, rfl, rfl, rfl, rfl, rfl, rfl, rfl⟩ := H
  go_enter Try.func73, Try.ntmps73
  go_wp2_with (first | ((with_reducible refine gate_dst (N := 1) rfl ?_); refine box_event ?hg (N := 1) ?hd (cs := #[.int .i64 a0_0, .int .i64 a0_1, .int .i64 a0_2, .slice A0_3 l0_3.length c0_3, .int .i64 a0_4, .int .i64 a0_5, .int .i64 a0_6]) (t := 47) ?hr ?_; (case hd => rfl); (case hg => rfl); (case hr => first | (go_simp; done) | (go_simp; rfl)); intro gbBD hg w19 hbox hb; have n0_ := Aside0.mk (below_step belS hb); have n1_ := Aside0.mk (hbox); have n2_ := Aside0.mk ((by rw [hg]; exact (below_size belS) : w.heap.size ≤ gbBD)); have n3_ := n2_; clear HB; have HB := n0_; have BKBD := n1_; have GWBD := n2_; have GEBD := n3_; clear n0_ n1_ n2_ n3_; clear hb hbox hg) | ((with_reducible refine gate_dst (N := 2) rfl ?_); refine box_event ?hg (N := 2) ?hd (cs := #[.int .i64 0, .int .i64 0, .int .i64 0, .slice none 0 0, .int .i64 0, .int .i64 0, .int .i64 0]) (t := 47) ?hr ?_; (case hd => rfl); (case hg => rfl); (case hr => first | (go_simp; done) | (go_simp; rfl)); intro gbBE hg w20 hbox hb; have n0_ := Aside0.mk (blk_below (blk_up BKBD.out) hb); have n1_ := Aside0.mk (below_step belS hb); have n2_ := Aside0.mk (hbox); have n3_ := Aside0.mk ((by rw [hg]; exact (below_size belS) : w.heap.size ≤ gbBE)); have n4_ := n3_; have n5_ := Aside0.mk ((by rw [hg]; exact Nat.ne_of_lt (blk_lt (blk_up BKBD.out)) : gbBD ≠ gbBE)); have n6_ := Aside0.mk ((by rw [hg]; exact Nat.ne_of_gt (blk_lt (blk_up BKBD.out)) : gbBE ≠ gbBD)); clear BKBD; clear HB; have BKBD := n0_; have HB := n1_; have BKBE := n2_; have GWBE := n3_; have GEBE := n4_; have NBBD_BE := n5_; have NBBE_BD := n6_; clear n0_ n1_ n2_ n3_ n4_ n5_ n6_; clear hb hbox hg; have hnb21 := NBBD_BE.out; have hnc21 := NBBE_BD.out; obtain ⟨hcz22_0, hcz22_1, hcz22_2, hcz22_3, hcz22_4, hcz22_5, hcz22_6, hfz22_0, hfz22_1, hfz22_2, hfz22_3, hfz22_4, hfz22_5, hfz22_6⟩ := blk7 BKBD.out) | ((with_reducible refine gate_callee (f := 133) rfl ?_); refine goesL_ (some 6) rfl rfl Try.func133 (by kernel_rfl) rfl #[.agg #[.int .i64 a0_0, .int .i64 a0_1, .int .i64 a0_2, .slice A0_3 l0_3.length c0_3, .int .i64 a0_4, .int .i64 a0_5, .int .i64 a0_6]] rfl argS ?_; (with_reducible refine (spec_raGood.calls k a0_0 a0_1 a0_2 _ _ l0_3 a0_4 a0_5 a0_6 false _ ?side1 ?side2 A2.out).mono ?_); (case side1 => exact Kd.C_up (Kd.C_below HR0_3.out HB.out)); (case side2 => exact HC0_3.out); rintro e w23 ⟨rfl, hb⟩; refine ⟨_, rfl, ?_⟩; have n0_ := Aside0.mk (blk_below (blk_up BKBD.out) hb); have n1_ := Aside0.mk (blk_below (blk_up BKBE.out) hb); have n2_ := Aside0.mk (below_step belS hb); clear BKBD; clear BKBE; clear HB; have BKBD := n0_; have BKBE := n1_; have HB := n2_; clear n0_ n1_ n2_; (try clear hb); (try clear hb2); (try clear hk); (try clear hi); obtain ⟨hcz24_0, hcz24_1, hcz24_2, hcz24_3, hcz24_4, hcz24_5, hcz24_6, hfz24_0, hfz24_1, hfz24_2, hfz24_3, hfz24_4, hfz24_5, hfz24_6⟩ := blk7 BKBE.out))
  refine bodyPost_ret (results_ct rfl _ _ gbBE 47 #[.int .i64 0, .int .i64 0, .int .i64 0, .slice none 0 0, .int .i64 0, .int .i64 0, .int .i64 0] (0, 0) _ rfl (by (with_reducible repeat (first | refine blk_drewN ?_ _ | refine blk_drew ?_ | refine blk_alloc ?_ _)); refine blk_put (cs := #[.int .i64 0, .int .i64 0, .int .i64 0, .slice none 0 0, .int .i64 0, .int .i64 0, .int .i64 0]) ?_ 6 _ rfl; (with_reducible repeat (first | refine blk_drewN ?_ _ | refine blk_drew ?_ | refine blk_alloc ?_ _)); refine blk_put (cs := #[.int .i64 0, .int .i64 0, .int .i64 0, .slice none 0 0, .int .i64 0, .int .i64 0, .int .i64 0]) ?_ 5 _ rfl; (with_reducible repeat (first | refine blk_drewN ?_ _ | refine blk_drew ?_ | refine blk_alloc ?_ _)); refine blk_put (cs := #[.int .i64 0, .int .i64 0, .int .i64 0, .slice none 0 0, .int .i64 0, .int .i64 0, .int .i64 0]) ?_ 4 _ rfl; (with_reducible repeat (first | refine blk_drewN ?_ _ | refine blk_drew ?_ | refine blk_alloc ?_ _)); refine blk_put (cs := #[.int .i64 0, .int .i64 0, .int .i64 0, .slice none 0 0, .int .i64 0, .int .i64 0, .int .i64 0]) ?_ 3 _ rfl; (with_reducible repeat (first | refine blk_drewN ?_ _ | refine blk_drew ?_ | refine blk_alloc ?_ _)); refine blk_put (cs := #[.int .i64 0, .int .i64 0, .int .i64 0, .slice none 0 0, .int .i64 0, .int .i64 0, .int .i64 0]) ?_ 2 _ rfl; (with_reducible repeat (first | refine blk_drewN ?_ _ | refine blk_drew ?_ | refine blk_alloc ?_ _)); refine blk_put (cs := #[.int .i64 0, .int .i64 0, .int .i64 0, .slice none 0 0, .int .i64 0, .int .i64 0, .int .i64 0]) ?_ 1 _ rfl; (with_reducible repeat (first | refine blk_drewN ?_ _ | refine blk_drew ?_ | refine blk_alloc ?_ _)); refine blk_put (cs := #[.int .i64 0, .int .i64 0, .int .i64 0, .slice none 0 0, .int .i64 0, .int .i64 0, .int .i64 0]) ?_ 0 _ rfl; (with_reducible repeat (first | refine blk_drewN ?_ _ | refine blk_drew ?_ | refine blk_alloc ?_ _)); exact BKBE.out) Try.underlying47 rfl (by kernel_rfl)) rfl ?_
  exact ⟨_, by first | rfl | (simp [errW_none, errW_some] <;> rfl) | (simp [*, errW_none, errW_some] <;> rfl), by first | exact Kd.R_nil _ _ _ _ _ | exact Kd.N_nil _ _ _ _ _ | exact Kd.V_nil _ _ _ _ _ | exact Kd.Q_nil _ _ _ _ _ | exact Kd.S_nil _ _ _ _ _, by exact belS⟩

end Go.Proofs.Ytkobjjadojpjfaa.Pr
