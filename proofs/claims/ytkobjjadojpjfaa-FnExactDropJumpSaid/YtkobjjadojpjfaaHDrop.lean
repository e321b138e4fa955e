/- Proved here: impl.DropJump: the filter by a function value that holds the jump's beginning, then the board with what is kept; no other condition. -/
import Derived.Test.YtkobjjadojpjfaaHJumps
import Derived.Test.YtkobjjadojpjfaaFImplIsBoard
import Derived.Test.YtkobjjadojpjfaaFImplBoardWith
import Derived.Test.YtkobjjadojpjfaaV2
namespace Go.Proofs.Ytkobjjadojpjfaa.Pr
open Go.RowKit Go.Proofs.YtkobjjadojpjfaaW.PrintWords Go.Proofs.YtkobjjadojpjfaaW.PrintLast Go.Proofs.YtkobjjadojpjfaaW.PrintMore
set_option linter.unusedVariables false
set_option linter.unusedSimpArgs false

/-- W is w with the block g's cells written anew -/
def CelD (w W : World) (g : Nat) (cs : Array Value) (t : TypeId) : Prop := W.heap[g]? = some (.cells cs t (0, 0)) ∧ (∀ k, k ≠ g → W.heap[k]? = w.heap[k]?) ∧ (∀ B, ∀ v, B ≤ g → Below B v w → Below B v W)
theorem CelD.R {α : Type} {d : Kd α} {e base : Nat} {ok : Nat → Prop} {w W : World} {v : Value} {xs : List α} {g t : Nat} {cs : Array Value} (h : CelD w W g cs t) (k : Kd.R d e w base ok v xs) (hok : ∀ k, ok k → k ≠ g) : Kd.R d e W base ok v xs := Kd.R_step k (fun j ho _ => h.2.1 j (hok j ho))
theorem celD_one {w w1 : World} {g t : Nat} {cs cs' : Array Value} (h : CelD w w1 g cs t) (i : Nat) (u : Value) (e : cs.setIfInBounds i u = cs') : CelD w (w1.setCell ⟨g, i, none⟩ u) g cs' t :=
  ⟨blk_put h.1 i u e, fun k hk => (Below.heap_setCell w1 ⟨g, i, none⟩ u k hk).trans (h.2.1 k hk), fun B v hB hb => (h.2.2 B v hB hb).setCell hB u⟩
theorem celD_none {w : World} {g t : Nat} {cs : Array Value} (h : w.heap[g]? = some (.cells cs t (0, 0))) : CelD w w g cs t := ⟨h, fun _ _ => rfl, fun _ _ _ hb => hb⟩

def dropV (a1 : Int) : FvJ := ⟨183, #[], fun a _ => some (a != a1)⟩
def dropAt (a1 : Int) (g : Nat) : FvJ := ⟨183, #[.pointer (some ⟨g, 0, none⟩)], fun a _ => some (a != a1)⟩

set_option maxHeartbeats 2000000 in
theorem dropAt_ok {a1 : Int} {w : World} {g : Nat} (hx : w.heap[g]? = some (.cells #[.int .i64 a1] 3 (0, 0))) : FvJ.Ok (dropAt a1 g) w := by
  refine ⟨enters_pr Try.func183 (by kernel_rfl) rfl, fun W a b r hW h => ?_⟩
  show Calls Try.prog 183 #[.agg #[.int .i64 a, .int .i64 b], .pointer (some ⟨g, 0, none⟩)] W _
  have h : some (a != a1) = some r := h
  obtain rfl := Option.some.inj h
  clear h
  have HX := Aside0.mk (blk_below hx hW)
  clear hx hW
  have HB := Aside0.mk (Below.refl W.heap.size W)
  have hu := Try.underlying27
  go_enter Try.func183, Try.ntmps183
  go_wp2_with (first | ((with_reducible refine gate_dst (N := 2) rfl ?_); refine box_event ?hg (N := 2) ?hd (cs := #[.int .i64 a, .int .i64 b]) (t := 27) ?hr ?_; (case hd => rfl); (case hg => rfl); (case hr => first | (go_simp; done) | (go_simp; rfl)); intro g2 hg w1 hbox hb; clear hg; have n0_ := Aside0.mk (blk_below HX.out hb); have n1_ := Aside0.mk (below_step HB.out hb); clear HX HB hb; have HX := n0_; have HB := n1_; clear n0_ n1_; obtain ⟨hcz0, hcz1, hfz0, hfz1⟩ := blk2 hbox; clear hbox; have hcg : w1.cell? ⟨g, 0, none⟩ = some (.int .i64 a1) := (blk_cell HX.out 0).trans rfl; have hfg := blk_frozen HX.out 0))
  go_ret
  exact ⟨rfl, HB.out⟩

theorem drop_p (k : Nat) (a b c : Int) (l : List S27) (a1 : Int) (g : Nat) : impl_Board_jumps.f k a b c l (dropAt a1 g) = impl_Board_jumps.f k a b c l (dropV a1) := rfl

def impl_DropJump.f (k : Nat) (a0_0 : Int) (a0_1 : Int) (a0_2 : Int) (l0_3 : List S27) (a1 : Int) : Option (Int × Int × Int × (List S27) × Bool) :=
  (impl_IsBoard.f k a0_0 a0_1 a0_2 l0_3).bind fun t => if t = true then ((impl_Board_jumps.f k a0_0 a0_1 a0_2 l0_3 (dropV a1)).bind fun y => if (y.length : Int) = (l0_3.length : Int) then some (0, 0, 0, [], false) else (impl_Board_with.f k a0_0 a0_1 a0_2 l0_3 y).bind fun b => some (b.1, b.2.1, b.2.2.1, b.2.2.2, true)) else some (0, 0, 0, [], false)

set_option maxHeartbeats 8000000 in
set_option maxRecDepth 100000 in
theorem impl_DropJump.calls (k : Nat) (a0_0 : Int) (a0_1 : Int) (a0_2 : Int) (A0_3 : Option Addr) (c0_3 : Nat) (l0_3 : List S27) (a1 : Int) (r1 : Int) (r2 : Int) (r3 : Int) (r4 : List S27) (r5 : Bool) (w : World) (hr0_3 : Kd.C k27 w A0_3 l0_3.length l0_3) (hc0_3 : l0_3.length ≤ c0_3) (h : impl_DropJump.f k a0_0 a0_1 a0_2 l0_3 a1 = some (r1, r2, r3, r4, r5)) :
    Calls Try.prog 113 #[.agg #[.int .i64 a0_0, .int .i64 a0_1, .int .i64 a0_2, .slice A0_3 l0_3.length c0_3], .int .i64 a1] w fun e w' => ∃ v3_ : Value, e = .returned (.tuple #[.agg #[.int .i64 r1, .int .i64 r2, .int .i64 r3, v3_], .bool r5]) ∧ Kd.R k27 27 w' w.heap.size (fun _ => True) v3_ r4 ∧ Below w.heap.size w w' := by
  have HR := Aside0.mk hr0_3
  have HC := Aside0.mk hc0_3
  clear hr0_3 hc0_3
  have HB := Aside0.mk (Below.refl w.heap.size w)
  have hu := Try.underlying32
  obtain ⟨t, ht, h⟩ := Option.bind_eq_some_iff.mp h
  have HT := Aside0.mk ht
  clear ht
  cases t with
  | false =>
    simp only [Bool.false_eq_true, if_false, Option.some.injEq, Prod.mk.injEq] at h
    obtain ⟨rfl, rfl, rfl, rfl, rfl⟩ := h
    go_enter Try.func113, Try.ntmps113
    go_wp2_with (first | ((with_reducible refine gate_dst (N := 2) rfl ?_); refine box_event ?hg (N := 2) ?hd (cs := #[.int .i64 a0_0, .int .i64 a0_1, .int .i64 a0_2, .slice A0_3 l0_3.length c0_3]) (t := 32) ?hr ?_; (case hd => rfl); (case hg => rfl); (case hr => first | (go_simp; done) | (go_simp; rfl)); intro g2 hg w1 hbox hb; clear hg; have mb_ := Aside0.mk (below_step belS hb); clear HB; have HB := mb_; clear mb_ hb; have B2 := Aside0.mk hbox; clear hbox) | ((with_reducible refine gate_dst (N := 3) rfl ?_); refine box_event ?hg (N := 3) ?hd (cs := #[.int .i64 a1]) (t := 3) ?hr ?_; (case hd => rfl); (case hg => rfl); (case hr => first | (go_simp; done) | (go_simp; rfl)); intro g3 hg w2 hbox hb; clear hg; have m0_ := Aside0.mk (blk_below (blk_up B2.out) hb); have mb_ := Aside0.mk (below_step belS hb); clear B2 HB; have B2 := m0_; have HB := mb_; clear m0_ mb_; clear hb; have B3 := Aside0.mk hbox; clear hbox) | ((with_reducible refine gate_dst (N := 4) rfl ?_); refine box_event ?hg (N := 4) ?hd (cs := #[.int .i64 0, .int .i64 0, .int .i64 0, .slice none 0 0]) (t := 32) ?hr ?_; (case hd => rfl); (case hg => rfl); (case hr => first | (go_simp; done) | (go_simp; rfl)); intro g4 hg w3 hbox hb; have G4 := Aside0.mk ((by rw [hg]; exact (below_size belS) : w.heap.size ≤ g4)); clear hg; have m0_ := Aside0.mk (blk_below (blk_up B2.out) hb); have m1_ := Aside0.mk (blk_below (blk_up B3.out) hb); have mb_ := Aside0.mk (below_step belS hb); clear B2 B3 HB; have B2 := m0_; have B3 := m1_; have HB := mb_; clear m0_ m1_ mb_; clear hb; have B4 := Aside0.mk hbox; clear hbox; obtain ⟨hcp_0, hcp_1, hcp_2, hcp_3, hfp_0, hfp_1, hfp_2, hfp_3⟩ := blk4 B2.out) | ((with_reducible refine gate_callee (f := 44) rfl ?_); refine goesL_ (some 8) rfl rfl Try.func44 (by kernel_rfl) rfl #[.agg #[.int .i64 a0_0, .int .i64 a0_1, .int .i64 a0_2, .slice A0_3 l0_3.length c0_3]] rfl argS ?_; (with_reducible refine (impl_IsBoard.calls k a0_0 a0_1 a0_2 _ _ l0_3 _ _ ?side1 ?side2 HT.out).mono ?_); (case side1 => exact Kd.C_up (Kd.C_below HR.out HB.out)); (case side2 => exact HC.out); rintro e w4 ⟨rfl, hb⟩; refine ⟨_, rfl, ?_⟩; have m0_ := Aside0.mk (blk_below (blk_up B2.out) hb); have m1_ := Aside0.mk (blk_below (blk_up B3.out) hb); have m2_ := Aside0.mk (blk_below (blk_up B4.out) hb); have mb_ := Aside0.mk (below_step belS hb); clear B2 B3 B4 HB; have B2 := m0_; have B3 := m1_; have B4 := m2_; have HB := mb_; clear m0_ m1_ m2_ mb_; clear hb; obtain ⟨hcq_0, hcq_1, hcq_2, hcq_3, hfq_0, hfq_1, hfq_2, hfq_3⟩ := blk4 B2.out; obtain ⟨hcr_0, hcr_1, hcr_2, hcr_3, hfr_0, hfr_1, hfr_2, hfr_3⟩ := blk4 B4.out))
    have c0_ : CelD _ _ g4 #[.int .i64 0, .int .i64 0, .int .i64 0, .slice none 0 0] 32 := celD_one (celD_none B4.out) 0 _ rfl
    have c1_ : CelD _ _ g4 #[.int .i64 0, .int .i64 0, .int .i64 0, .slice none 0 0] 32 := celD_one c0_ 1 _ rfl
    have c2_ : CelD _ _ g4 #[.int .i64 0, .int .i64 0, .int .i64 0, .slice none 0 0] 32 := celD_one c1_ 2 _ rfl
    have c3_ : CelD _ _ g4 #[.int .i64 0, .int .i64 0, .int .i64 0, .slice none 0 0] 32 := celD_one c2_ 3 _ rfl
    refine bodyPost_ret (results_ct rfl _ _ g4 32 #[.int .i64 0, .int .i64 0, .int .i64 0, .slice none 0 0] (0, 0) _ rfl c3_.1 Try.underlying32 rfl (by kernel_rfl)) rfl ?_
    exact ⟨_, by first | rfl | (simp [errW_none, errW_some] <;> rfl) | (simp [*, errW_none, errW_some] <;> rfl), Kd.R_nil _ _ _ _ _, c3_.2.2 _ _ G4.out HB.out⟩
  | true =>
    rw [if_pos rfl] at h
    obtain ⟨y, hy, h⟩ := Option.bind_eq_some_iff.mp h
    have HY := Aside0.mk hy
    clear hy
    by_cases c : (y.length : Int) = (l0_3.length : Int)
    · rw [if_pos c] at h
      simp only [Option.some.injEq, Prod.mk.injEq] at h
      obtain ⟨rfl, rfl, rfl, rfl, rfl⟩ := h
      have cb0 : ((y.length : Int) == (l0_3.length : Int)) = true := beq_iff_eq.mpr c
      clear c
      go_enter Try.func113, Try.ntmps113
      go_wp2_with (first | ((with_reducible refine gate_dst (N := 2) rfl ?_); refine box_event ?hg (N := 2) ?hd (cs := #[.int .i64 a0_0, .int .i64 a0_1, .int .i64 a0_2, .slice A0_3 l0_3.length c0_3]) (t := 32) ?hr ?_; (case hd => rfl); (case hg => rfl); (case hr => first | (go_simp; done) | (go_simp; rfl)); intro g2 hg w1 hbox hb; clear hg; have mb_ := Aside0.mk (below_step belS hb); clear HB; have HB := mb_; clear mb_ hb; have B2 := Aside0.mk hbox; clear hbox) | ((with_reducible refine gate_dst (N := 3) rfl ?_); refine box_event ?hg (N := 3) ?hd (cs := #[.int .i64 a1]) (t := 3) ?hr ?_; (case hd => rfl); (case hg => rfl); (case hr => first | (go_simp; done) | (go_simp; rfl)); intro g3 hg w2 hbox hb; clear hg; have m0_ := Aside0.mk (blk_below (blk_up B2.out) hb); have mb_ := Aside0.mk (below_step belS hb); clear B2 HB; have B2 := m0_; have HB := mb_; clear m0_ mb_; clear hb; have B3 := Aside0.mk hbox; clear hbox) | ((with_reducible refine gate_dst (N := 4) rfl ?_); refine box_event ?hg (N := 4) ?hd (cs := #[.int .i64 0, .int .i64 0, .int .i64 0, .slice none 0 0]) (t := 32) ?hr ?_; (case hd => rfl); (case hg => rfl); (case hr => first | (go_simp; done) | (go_simp; rfl)); intro g4 hg w3 hbox hb; have G4 := Aside0.mk ((by rw [hg]; exact (below_size belS) : w.heap.size ≤ g4)); clear hg; have m0_ := Aside0.mk (blk_below (blk_up B2.out) hb); have m1_ := Aside0.mk (blk_below (blk_up B3.out) hb); have mb_ := Aside0.mk (below_step belS hb); clear B2 B3 HB; have B2 := m0_; have B3 := m1_; have HB := mb_; clear m0_ m1_ mb_; clear hb; have B4 := Aside0.mk hbox; clear hbox; obtain ⟨hcp_0, hcp_1, hcp_2, hcp_3, hfp_0, hfp_1, hfp_2, hfp_3⟩ := blk4 B2.out) | ((with_reducible refine gate_callee (f := 44) rfl ?_); refine goesL_ (some 8) rfl rfl Try.func44 (by kernel_rfl) rfl #[.agg #[.int .i64 a0_0, .int .i64 a0_1, .int .i64 a0_2, .slice A0_3 l0_3.length c0_3]] rfl argS ?_; (with_reducible refine (impl_IsBoard.calls k a0_0 a0_1 a0_2 _ _ l0_3 _ _ ?side1 ?side2 HT.out).mono ?_); (case side1 => exact Kd.C_up (Kd.C_below HR.out HB.out)); (case side2 => exact HC.out); rintro e w4 ⟨rfl, hb⟩; refine ⟨_, rfl, ?_⟩; have m0_ := Aside0.mk (blk_below (blk_up B2.out) hb); have m1_ := Aside0.mk (blk_below (blk_up B3.out) hb); have m2_ := Aside0.mk (blk_below (blk_up B4.out) hb); have mb_ := Aside0.mk (below_step belS hb); clear B2 B3 B4 HB; have B2 := m0_; have B3 := m1_; have B4 := m2_; have HB := mb_; clear m0_ m1_ m2_ mb_; clear hb; obtain ⟨hcq_0, hcq_1, hcq_2, hcq_3, hfq_0, hfq_1, hfq_2, hfq_3⟩ := blk4 B2.out; obtain ⟨hcr_0, hcr_1, hcr_2, hcr_3, hfr_0, hfr_1, hfr_2, hfr_3⟩ := blk4 B4.out) | ((with_reducible refine gate_callee (f := 140) rfl ?_); refine goesL_ (some 13) rfl rfl Try.func140 (by kernel_rfl) rfl #[.agg #[.int .i64 a0_0, .int .i64 a0_1, .int .i64 a0_2, .slice A0_3 l0_3.length c0_3], FvJ.v (dropAt a1 g3)] rfl argS ?_; (with_reducible refine (impl_Board_jumps.calls k a0_0 a0_1 a0_2 _ _ l0_3 (dropAt a1 g3) y _ ?side1 ?side2 ((drop_p k a0_0 a0_1 a0_2 l0_3 a1 g3).trans HY.out) ?side3).mono ?_); (case side1 => exact Kd.C_up (Kd.C_below HR.out HB.out)); (case side2 => exact HC.out); (case side3 => exact dropAt_ok (blk_up B3.out)); rintro e w5 ⟨vy, rfl, ho, hb⟩; refine ⟨_, rfl, ?_⟩; have HO := Aside0.mk (Kd.R_lower ho (below_size belS)); clear ho; have m0_ := Aside0.mk (blk_below (blk_up B2.out) hb); have m1_ := Aside0.mk (blk_below (blk_up B3.out) hb); have m2_ := Aside0.mk (blk_below (blk_up B4.out) hb); have mb_ := Aside0.mk (below_step belS hb); clear B2 B3 B4 HB; have B2 := m0_; have B3 := m1_; have B4 := m2_; have HB := mb_; clear m0_ m1_ m2_ mb_; clear hb; obtain ⟨hcs_0, hcs_1, hcs_2, hcs_3, hfs_0, hfs_1, hfs_2, hfs_3⟩ := blk4 B2.out; obtain ⟨hct_0, hct_1, hct_2, hct_3, hft_0, hft_1, hft_2, hft_3⟩ := blk4 B4.out; obtain ⟨Ay, cy, ey⟩ := Kd.R_slice HO.out; subst ey))
      have c0_ : CelD _ _ g4 #[.int .i64 0, .int .i64 0, .int .i64 0, .slice none 0 0] 32 := celD_one (celD_none B4.out) 0 _ rfl
      have c1_ : CelD _ _ g4 #[.int .i64 0, .int .i64 0, .int .i64 0, .slice none 0 0] 32 := celD_one c0_ 1 _ rfl
      have c2_ : CelD _ _ g4 #[.int .i64 0, .int .i64 0, .int .i64 0, .slice none 0 0] 32 := celD_one c1_ 2 _ rfl
      have c3_ : CelD _ _ g4 #[.int .i64 0, .int .i64 0, .int .i64 0, .slice none 0 0] 32 := celD_one c2_ 3 _ rfl
      refine bodyPost_ret (results_ct rfl _ _ g4 32 #[.int .i64 0, .int .i64 0, .int .i64 0, .slice none 0 0] (0, 0) _ rfl c3_.1 Try.underlying32 rfl (by kernel_rfl)) rfl ?_
      exact ⟨_, by first | rfl | (simp [errW_none, errW_some] <;> rfl) | (simp [*, errW_none, errW_some] <;> rfl), Kd.R_nil _ _ _ _ _, c3_.2.2 _ _ G4.out HB.out⟩
    · rw [if_neg c] at h
      obtain ⟨⟨z1, z2, z3, z4⟩, hw, h⟩ := Option.bind_eq_some_iff.mp h
      have HW := Aside0.mk hw
      clear hw
      simp only [Option.some.injEq, Prod.mk.injEq] at h
      obtain ⟨rfl, rfl, rfl, rfl, rfl⟩ := h
      have cb0 : ((y.length : Int) == (l0_3.length : Int)) = false := beq_eq_false_iff_ne.mpr c
      clear c
      go_enter Try.func113, Try.ntmps113
      go_wp2_with (first | ((with_reducible refine gate_dst (N := 2) rfl ?_); refine box_event ?hg (N := 2) ?hd (cs := #[.int .i64 a0_0, .int .i64 a0_1, .int .i64 a0_2, .slice A0_3 l0_3.length c0_3]) (t := 32) ?hr ?_; (case hd => rfl); (case hg => rfl); (case hr => first | (go_simp; done) | (go_simp; rfl)); intro g2 hg w1 hbox hb; clear hg; have mb_ := Aside0.mk (below_step belS hb); clear HB; have HB := mb_; clear mb_ hb; have B2 := Aside0.mk hbox; clear hbox) | ((with_reducible refine gate_dst (N := 3) rfl ?_); refine box_event ?hg (N := 3) ?hd (cs := #[.int .i64 a1]) (t := 3) ?hr ?_; (case hd => rfl); (case hg => rfl); (case hr => first | (go_simp; done) | (go_simp; rfl)); intro g3 hg w2 hbox hb; clear hg; have m0_ := Aside0.mk (blk_below (blk_up B2.out) hb); have mb_ := Aside0.mk (below_step belS hb); clear B2 HB; have B2 := m0_; have HB := mb_; clear m0_ mb_; clear hb; have B3 := Aside0.mk hbox; clear hbox) | ((with_reducible refine gate_dst (N := 4) rfl ?_); refine box_event ?hg (N := 4) ?hd (cs := #[.int .i64 0, .int .i64 0, .int .i64 0, .slice none 0 0]) (t := 32) ?hr ?_; (case hd => rfl); (case hg => rfl); (case hr => first | (go_simp; done) | (go_simp; rfl)); intro g4 hg w3 hbox hb; have G4 := Aside0.mk ((by rw [hg]; exact (below_size belS) : w.heap.size ≤ g4)); clear hg; have m0_ := Aside0.mk (blk_below (blk_up B2.out) hb); have m1_ := Aside0.mk (blk_below (blk_up B3.out) hb); have mb_ := Aside0.mk (below_step belS hb); clear B2 B3 HB; have B2 := m0_; have B3 := m1_; have HB := mb_; clear m0_ m1_ mb_; clear hb; have B4 := Aside0.mk hbox; clear hbox; obtain ⟨hcp_0, hcp_1, hcp_2, hcp_3, hfp_0, hfp_1, hfp_2, hfp_3⟩ := blk4 B2.out) | ((with_reducible refine gate_callee (f := 44) rfl ?_); refine goesL_ (some 8) rfl rfl Try.func44 (by kernel_rfl) rfl #[.agg #[.int .i64 a0_0, .int .i64 a0_1, .int .i64 a0_2, .slice A0_3 l0_3.length c0_3]] rfl argS ?_; (with_reducible refine (impl_IsBoard.calls k a0_0 a0_1 a0_2 _ _ l0_3 _ _ ?side1 ?side2 HT.out).mono ?_); (case side1 => exact Kd.C_up (Kd.C_below HR.out HB.out)); (case side2 => exact HC.out); rintro e w4 ⟨rfl, hb⟩; refine ⟨_, rfl, ?_⟩; have m0_ := Aside0.mk (blk_below (blk_up B2.out) hb); have m1_ := Aside0.mk (blk_below (blk_up B3.out) hb); have m2_ := Aside0.mk (blk_below (blk_up B4.out) hb); have mb_ := Aside0.mk (below_step belS hb); clear B2 B3 B4 HB; have B2 := m0_; have B3 := m1_; have B4 := m2_; have HB := mb_; clear m0_ m1_ m2_ mb_; clear hb; obtain ⟨hcq_0, hcq_1, hcq_2, hcq_3, hfq_0, hfq_1, hfq_2, hfq_3⟩ := blk4 B2.out; obtain ⟨hcr_0, hcr_1, hcr_2, hcr_3, hfr_0, hfr_1, hfr_2, hfr_3⟩ := blk4 B4.out) | ((with_reducible refine gate_callee (f := 140) rfl ?_); refine goesL_ (some 13) rfl rfl Try.func140 (by kernel_rfl) rfl #[.agg #[.int .i64 a0_0, .int .i64 a0_1, .int .i64 a0_2, .slice A0_3 l0_3.length c0_3], FvJ.v (dropAt a1 g3)] rfl argS ?_; (with_reducible refine (impl_Board_jumps.calls k a0_0 a0_1 a0_2 _ _ l0_3 (dropAt a1 g3) y _ ?side1 ?side2 ((drop_p k a0_0 a0_1 a0_2 l0_3 a1 g3).trans HY.out) ?side3).mono ?_); (case side1 => exact Kd.C_up (Kd.C_below HR.out HB.out)); (case side2 => exact HC.out); (case side3 => exact dropAt_ok (blk_up B3.out)); rintro e w5 ⟨vy, rfl, ho, hb⟩; refine ⟨_, rfl, ?_⟩; have HO := Aside0.mk (Kd.R_lower ho (below_size belS)); clear ho; have m0_ := Aside0.mk (blk_below (blk_up B2.out) hb); have m1_ := Aside0.mk (blk_below (blk_up B3.out) hb); have m2_ := Aside0.mk (blk_below (blk_up B4.out) hb); have mb_ := Aside0.mk (below_step belS hb); clear B2 B3 B4 HB; have B2 := m0_; have B3 := m1_; have B4 := m2_; have HB := mb_; clear m0_ m1_ m2_ mb_; clear hb; obtain ⟨hcs_0, hcs_1, hcs_2, hcs_3, hfs_0, hfs_1, hfs_2, hfs_3⟩ := blk4 B2.out; obtain ⟨hct_0, hct_1, hct_2, hct_3, hft_0, hft_1, hft_2, hft_3⟩ := blk4 B4.out; obtain ⟨Ay, cy, ey⟩ := Kd.R_slice HO.out; subst ey) | ((with_reducible refine gate_callee (f := 178) rfl ?_); refine goesL_ (some 23) rfl rfl Try.func178 (by kernel_rfl) rfl #[.agg #[.int .i64 a0_0, .int .i64 a0_1, .int .i64 a0_2, .slice A0_3 l0_3.length c0_3], .slice Ay y.length cy] rfl argS ?_; (with_reducible refine (impl_Board_with.calls k a0_0 a0_1 a0_2 _ _ l0_3 (fun k_ => some k_ = (.slice Ay y.length cy : Value).ownBlock) (.slice Ay y.length cy) y z1 z2 z3 z4 w _ ?side1 ?side2 ?side3 ?side4 HW.out).mono ?_); (case side1 => exact belS); (case side2 => exact Kd.C_kept_came k27_heap HR.out belS (fun k_ hs_ => (fun e_ => Kd.R_base HO.out k_ e_.symm) hs_)); (case side3 => exact HC.out); (case side4 => exact Kd.R_tight rfl (Kd.R_up HO.out)); rintro e w6 ⟨vz, rfl, ho, hb, hkp⟩; refine ⟨_, rfl, ?_⟩; have m0_ := Aside0.mk (blk_kept (blk_up B4.out) hkp (fun hs_ => (fun e_ => (Kd.R_ne HO.out B4.out (by decide)) e_) hs_)); have m1_ := Aside0.mk (Kd.R_mono (ok' := fun k_ => True) ho (fun k_ hk_ => trivial)); have mb_ := Aside0.mk hb; clear B4 HB HO; have B4 := m0_; have HO := m1_; have HB := mb_; clear m0_ m1_ mb_ ho hb hkp; obtain ⟨hcu_0, hcu_1, hcu_2, hcu_3, hfu_0, hfu_1, hfu_2, hfu_3⟩ := blk4 B4.out; obtain ⟨Az, cz, ez⟩ := Kd.R_slice HO.out; subst ez))
      have c0_ : CelD _ _ g4 #[.int .i64 z1, .int .i64 0, .int .i64 0, .slice none 0 0] 32 := celD_one (celD_none B4.out) 0 _ rfl
      have c1_ : CelD _ _ g4 #[.int .i64 z1, .int .i64 z2, .int .i64 0, .slice none 0 0] 32 := celD_one c0_ 1 _ rfl
      have c2_ : CelD _ _ g4 #[.int .i64 z1, .int .i64 z2, .int .i64 z3, .slice none 0 0] 32 := celD_one c1_ 2 _ rfl
      have c3_ : CelD _ _ g4 #[.int .i64 z1, .int .i64 z2, .int .i64 z3, .slice Az z4.length cz] 32 := celD_one c2_ 3 _ rfl
      refine bodyPost_ret (results_ct rfl _ _ g4 32 #[.int .i64 z1, .int .i64 z2, .int .i64 z3, .slice Az z4.length cz] (0, 0) _ rfl c3_.1 Try.underlying32 rfl (by kernel_rfl)) rfl ?_
      exact ⟨_, by first | rfl | (simp [errW_none, errW_some] <;> rfl) | (simp [*, errW_none, errW_some] <;> rfl), Kd.R_mono (c3_.R (Kd.R_types HO.out B4.out (by decide)) (fun _ hk => hk.2)) (fun _ _ => trivial), c3_.2.2 _ _ G4.out HB.out⟩

end Go.Proofs.Ytkobjjadojpjfaa.Pr
