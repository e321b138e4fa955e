-- A text of the machine side, written by wip/gen.py of this repo out of the translation. Not trusted: Lean checks it.
import Derived.Test.YtkobjjadojpjfaaF0
import Derived.Test.YtkobjjadojpjfaaFGB
import Derived.Test.YtkobjjadojpjfaaFImplBoardLandings
import Derived.Test.YtkobjjadojpjfaaHRepeat
namespace Go.Proofs.Ytkobjjadojpjfaa.Pr
open Go.RowKit Go.Proofs.YtkobjjadojpjfaaW.PrintWords Go.Proofs.YtkobjjadojpjfaaW.PrintLast Go.Proofs.YtkobjjadojpjfaaW.PrintMore
attribute [local go_sem] max2_int min2_int max_two min_two max_three min_three max_four min_four   -- for this text's walks alone
set_option linter.unusedVariables false
set_option linter.unusedSimpArgs false

/-! ### impl_Board_far: function 130 -/
mutual
def impl_Board_far.l0 : Nat → List Int → Int → Bool → Int → Int → Int → List (S27) → Option (List Int)
 | 0, _, _, _, _, _, _, _ => none
 | k + 1, x3, x4, x5, x260102000, x260102001, x260102002, x260102003 => if x5 = true then (impl_Board_far.l1 k x3 x4 false x260102000 0 x260102000 x260102001 x260102002 x260102003) else (some x3)
def impl_Board_far.l1 : Nat → List Int → Int → Bool → Int → Int → Int → Int → Int → List (S27) → Option (List Int)
 | 0, _, _, _, _, _, _, _, _, _ => none
 | k + 1, x3, x4, x5, x22, x23, x260102000, x260102001, x260102002, x260102003 => if x23 < x22 then (if 0 ≤ x23 then (if x23 < (x3.length : Int) then (if (rd x3 x23) ≥ 0 then (impl_Board_far.j2 k x3 x4 x5 x23 x22 x23 true x260102000 x260102001 x260102002 x260102003) else ((impl_Board_isSquare.f k x260102000 x260102001 x260102002 x260102003 x23).bind fun t260110 => (impl_Board_far.j2 k x3 x4 x5 x23 x22 x23 (!t260110) x260102000 x260102001 x260102002 x260102003))) else (none)) else (none)) else (impl_Board_far.l0 k x3 (wrap64 (x4 + 1)) x5 x260102000 x260102001 x260102002 x260102003)
def impl_Board_far.j2 : Nat → List Int → Int → Bool → Int → Int → Int → Bool → Int → Int → Int → List (S27) → Option (List Int)
 | 0, _, _, _, _, _, _, _, _, _, _, _ => none
 | k + 1, x3, x4, x5, x6, x22, x23, x36, x260102000, x260102001, x260102002, x260102003 => if x36 = true then (impl_Board_far.l1 k x3 x4 x5 x22 (wrap64 (x23 + 1)) x260102000 x260102001 x260102002 x260102003) else ((impl_Board_landings.f k x260102000 x260102001 x260102002 x260102003 x6).bind fun t260111 => (impl_Board_far.l2 k x3 x4 x5 x6 x22 x23 t260111 (t260111.length : Int) 0 x260102000 x260102001 x260102002 x260102003))
def impl_Board_far.l2 : Nat → List Int → Int → Bool → Int → Int → Int → List Int → Int → Int → Int → Int → Int → List (S27) → Option (List Int)
 | 0, _, _, _, _, _, _, _, _, _, _, _, _, _ => none
 | k + 1, x3, x4, x5, x6, x22, x23, x39, x40, x41, x260102000, x260102001, x260102002, x260102003 => if x41 < x40 then (if 0 ≤ x41 then (if x41 < (x39.length : Int) then (if 0 ≤ (rd x39 x41) then (if (rd x39 x41) < (x3.length : Int) then (if (rd x3 (rd x39 x41)) = x4 then (if 0 ≤ x6 then (if x6 < (x3.length : Int) then (impl_Board_far.l2 k (x3.set (x6 : Int).toNat (wrap64 (x4 + 1))) x4 true x6 x22 x23 x39 x40 (wrap64 (x41 + 1)) x260102000 x260102001 x260102002 x260102003) else (none)) else (none)) else (impl_Board_far.l2 k x3 x4 x5 x6 x22 x23 x39 x40 (wrap64 (x41 + 1)) x260102000 x260102001 x260102002 x260102003)) else (none)) else (none)) else (none)) else (none)) else (impl_Board_far.l1 k x3 x4 x5 x22 (wrap64 (x23 + 1)) x260102000 x260102001 x260102002 x260102003)
end
def impl_Board_far.f (k : Nat) (a0_0 : Int) (a0_1 : Int) (a0_2 : Int) (l0_3 : List (S27)) : Option (List Int) := (slices_Repeat_int_int.f (([(-1)] : List Int)) (wrap64 (a0_0 + 1))).bind fun t260105 => (if 0 ≤ a0_0 then (if a0_0 < (t260105.length : Int) then (impl_Board_far.l0 k (t260105.set (a0_0 : Int).toNat 0) 0 true a0_0 a0_1 a0_2 l0_3) else (none)) else (none))
set_option maxHeartbeats 8000000 in
set_option maxRecDepth 100000 in
theorem impl_Board_far.calls (k : Nat) (a0_0 : Int) (a0_1 : Int) (a0_2 : Int) (A0_3 : Option Addr) (c0_3 : Nat) (l0_3 : List (S27)) (r : List Int) (w : World) (hr0_3 : Kd.C k27 w A0_3 l0_3.length l0_3) (hc0_3 : l0_3.length ≤ c0_3) (h : impl_Board_far.f k a0_0 a0_1 a0_2 l0_3 = some r) :
  Calls Try.prog 130 #[.agg #[.int .i64 a0_0, .int .i64 a0_1, .int .i64 a0_2, .slice A0_3 l0_3.length c0_3]] w fun e w' => ∃ v0_ : Value, e = .returned (v0_) ∧ Kd.R (Kd.int .i64) 3 w' w.heap.size (fun _ => True) v0_ r ∧ Below w.heap.size w w' := by
 have hu32 := Try.underlying32
 have HR0_3 := Aside0.mk hr0_3
 have HC0_3 := Aside0.mk hc0_3
 clear hr0_3 hc0_3
 have HB := Aside0.mk (Below.refl w.heap.size w)
 have H : ((slices_Repeat_int_int.f (([(-1)] : List Int)) (wrap64 (a0_0 + 1))).bind fun t260105 => (if 0 ≤ a0_0 then (if a0_0 < (t260105.length : Int) then (impl_Board_far.l0 k (t260105.set (a0_0 : Int).toNat 0) 0 true a0_0 a0_1 a0_2 l0_3) else (none)) else (none))) = some r := h
 clear h
 obtain ⟨y260102, hy260102⟩ : ∃ y_ : List Int, y_ = (([(-1)] : List Int)) := ⟨_, rfl⟩
 replace H : ((slices_Repeat_int_int.f y260102 (wrap64 (a0_0 + 1))).bind fun t260105 => (if 0 ≤ a0_0 then (if a0_0 < (t260105.length : Int) then (impl_Board_far.l0 k (t260105.set (a0_0 : Int).toNat 0) 0 true a0_0 a0_1 a0_2 l0_3) else (none)) else (none))) = some r := by first | (rw [hy260102]; with_reducible exact H) | (have H2_ := (Option.bind_some _ _).symm.trans H; rw [hy260102]; with_reducible exact H2_) | (have H2_ := (Option.bind_some _ _).symm.trans H; with_reducible exact H2_) | with_reducible exact H | (rw [hy260102]; exact H) | exact H
 have Ny260102 := Aside0.mk hy260102
 clear hy260102
 replace H := Option.bind_eq_some_iff.mp H
 obtain ⟨t260105, A20, H⟩ := H
 replace H : (if 0 ≤ a0_0 then (if a0_0 < (t260105.length : Int) then (impl_Board_far.l0 k (t260105.set (a0_0 : Int).toNat 0) 0 true a0_0 a0_1 a0_2 l0_3) else (none)) else (none)) = some r := H
 have A2 := Aside0.mk A20
 clear A20
 by_cases c3 : 0 ≤ a0_0
 ·rw [if_pos c3] at H
  have c3b0 : decide (0 ≤ a0_0) = true := decide_eq_true c3
  clear c3
  by_cases c4 : a0_0 < (t260105.length : Int)
  ·rw [if_pos c4] at H
   have c4b0 : decide (a0_0 < (t260105.length : Int)) = true := decide_eq_true c4
   clear c4
   obtain ⟨y260108, hy260108⟩ : ∃ y_ : List Int, y_ = (t260105.set (a0_0 : Int).toNat 0) := ⟨_, rfl⟩
   replace H : (impl_Board_far.l0 k y260108 0 true a0_0 a0_1 a0_2 l0_3) = some r := by first | (rw [hy260108]; with_reducible exact H) | (have H2_ := (Option.bind_some _ _).symm.trans H; rw [hy260108]; with_reducible exact H2_) | (have H2_ := (Option.bind_some _ _).symm.trans H; with_reducible exact H2_) | with_reducible exact H | (rw [hy260108]; exact H) | exact H
   have Ny260108 := Aside0.mk hy260108
   clear hy260108
   have H' := Aside0.mk H
   clear H
   go_enter Try.func130, Try.ntmps130
   go_wp2_with (first | ((with_reducible refine gate_dst (N := 1) rfl ?_); refine box_event ?hg (N := 1) ?hd (cs := #[.int .i64 a0_0, .int .i64 a0_1, .int .i64 a0_2, .slice A0_3 l0_3.length c0_3]) (t := 32) ?hr ?_; (case hd => rfl); (case hg => rfl); (case hr => first | (go_simp; done) | (go_simp; rfl)); intro gb260101 hg w6 hbox hb; have n0_ := Aside0.mk (below_step (by repeat (first | (with_reducible first | exact HB.out | apply below_alloc | apply pw_below_drewN | apply below_drew1) | exact HB.out)) hb); have n1_ := Aside0.mk (hbox); have n2_ := Aside0.mk ((by rw [hg]; exact (below_size (by repeat (first | (with_reducible first | exact HB.out | apply below_alloc | apply pw_below_drewN | apply below_drew1) | exact HB.out))) : w.heap.size ≤ gb260101)); have n3_ := Aside0.mk ((by rw [hg]; exact (below_size (by repeat (first | (with_reducible first | exact HB.out | apply below_alloc | apply pw_below_drewN | apply below_drew1) | exact HB.out))) : w.heap.size ≤ gb260101)); clear HB; have HB := n0_; have BK260101 := n1_; have GW260101 := n2_; have GE260101 := n3_; clear n0_ n1_ n2_ n3_; clear hb hbox hg) | ((with_reducible refine gate_dst (N := 9) rfl ?_); refine Kd.R_lit (Kd.int .i64) _ 3 ?hg (N := 9) ?hd (xs := ([(-1)] : List Int)) (inner := [.int .i64 (-1)]) (ok := fun _ => True) (okp := fun _ => True) ?hr ?hp (fun _ hk => hk) trivial (Below.refl _ _) (Nat.le_refl _) (by simp) ?_; (case hd => rfl); (case hg => rfl); (case hr => first | (go_simp; done) | (go_simp; rfl)); (case hp => exact (Reps.one (show Kd.M (Kd.int .i64) _ _ _ (-1) [.int .i64 (-1)] from rfl) (Reps.none _ _))); intro v260103 w7 ho8 hb hg_ hnew_; clear hg_ hnew_; (first | rw [← Ny260102.out] at ho8 | (simp only [Int.reduceToNat] at ho8; rw [← Ny260102.out] at ho8)); have n0_ := Aside0.mk (Kd.R_lower ho8 (below_size (by repeat (first | (with_reducible first | exact HB.out | apply below_alloc | apply pw_below_drewN | apply below_drew1 | refine below_set ?_ GE260101.out) | exact HB.out)))); have n1_ := Aside0.mk (blk_below (g := gb260101) (o := .cells #[.int .i64 a0_0, .int .i64 a0_1, .int .i64 a0_2, .slice A0_3 l0_3.length c0_3] 32 (0, 0)) (by (with_reducible repeat (first | refine blk_drewN ?_ _ | refine blk_drew ?_ | refine blk_alloc ?_ _)); exact BK260101.out) hb); have n2_ := Aside0.mk (below_step (by repeat (first | (with_reducible first | exact HB.out | apply below_alloc | apply pw_below_drewN | apply below_drew1 | refine below_set ?_ GE260101.out) | exact HB.out)) hb); clear BK260101; clear HB; have HO260104 := n0_; have BK260101 := n1_; have HB := n2_; clear n0_ n1_ n2_; clear hb ho8; have hcz9_0 : w7.cell? ⟨gb260101, 0, none⟩ = some (.int .i64 a0_0) := (blk_cell BK260101.out 0).trans rfl; have hcz9_1 : w7.cell? ⟨gb260101, 1, none⟩ = some (.int .i64 a0_1) := (blk_cell BK260101.out 1).trans rfl; have hcz9_2 : w7.cell? ⟨gb260101, 2, none⟩ = some (.int .i64 a0_2) := (blk_cell BK260101.out 2).trans rfl; have hcz9_3 : w7.cell? ⟨gb260101, 3, none⟩ = some (.slice A0_3 l0_3.length c0_3) := (blk_cell BK260101.out 3).trans rfl; have hfz9_0 := blk_frozen BK260101.out 0; have hfz9_1 := blk_frozen BK260101.out 1; have hfz9_2 := blk_frozen BK260101.out 2; have hfz9_3 := blk_frozen BK260101.out 3; obtain ⟨Ao10, co10, eo10⟩ := Kd.R_slice HO260104.out; subst eo10) | ((with_reducible refine gate_callee (f := 194) rfl ?_); refine goesL_ (some 13) rfl rfl Try.func194 (by kernel_rfl) rfl #[.slice Ao10 y260102.length co10, .int .i64 (wrap64 (a0_0 + 1))] rfl (by (try simp only [List.map_toArray, List.map_cons, List.map_nil]); first | done | rfl | (simp only [List.length_drop, List.length_take]; rfl)) ?_; (with_reducible refine (slices_Repeat_int_int.calls _ _ y260102 (wrap64 (a0_0 + 1)) t260105 _ ?side1 ?side2 A2.out).mono ?_); (case side1 => repeat (first | exact (Kd.R_reads' HO260104.out).2.2 | (with_reducible refine Kd.C_alloc ?_ _) | (with_reducible refine Kd.C_drewN ?_ _) | (with_reducible refine Kd.C_drew ?_))); (case side2 => exact (Kd.R_reads' HO260104.out).2.1); rintro e w11 ⟨v260106, rfl, ho0, hb⟩; refine ⟨_, rfl, ?_⟩; have n0_ := Aside0.mk (Kd.R_elder' (by (with_reducible repeat (first | apply Kd.R_alloc | apply Kd.R_drewN | apply Kd.R_drew)); exact HO260104.out) (Kd.R_base ho0) hb); have n1_ := Aside0.mk (Kd.R_lower (Kd.R_new' ho0 (Kd.R_lt (by (with_reducible repeat (first | apply Kd.R_alloc | apply Kd.R_drewN | apply Kd.R_drew)); exact HO260104.out))) (below_size (by repeat (first | (with_reducible first | exact HB.out | apply below_alloc | apply pw_below_drewN | apply below_drew1 | refine below_set ?_ GE260101.out) | exact HB.out)))); have n2_ := Aside0.mk (blk_below (g := gb260101) (o := .cells #[.int .i64 a0_0, .int .i64 a0_1, .int .i64 a0_2, .slice A0_3 l0_3.length c0_3] 32 (0, 0)) (by (with_reducible repeat (first | refine blk_drewN ?_ _ | refine blk_drew ?_ | refine blk_alloc ?_ _)); exact BK260101.out) hb); have n3_ := Aside0.mk (below_step (by repeat (first | (with_reducible first | exact HB.out | apply below_alloc | apply pw_below_drewN | apply below_drew1 | refine below_set ?_ GE260101.out) | exact HB.out)) hb); clear HO260104; clear BK260101; clear HB; have HO260104 := n0_; have HO260107 := n1_; have BK260101 := n2_; have HB := n3_; clear n0_ n1_ n2_ n3_; (try clear hb); (try clear hb2); (try clear hk); (try clear hi); (try clear ho0); have hcz12_0 : w11.cell? ⟨gb260101, 0, none⟩ = some (.int .i64 a0_0) := (blk_cell BK260101.out 0).trans rfl; have hcz12_1 : w11.cell? ⟨gb260101, 1, none⟩ = some (.int .i64 a0_1) := (blk_cell BK260101.out 1).trans rfl; have hcz12_2 : w11.cell? ⟨gb260101, 2, none⟩ = some (.int .i64 a0_2) := (blk_cell BK260101.out 2).trans rfl; have hcz12_3 : w11.cell? ⟨gb260101, 3, none⟩ = some (.slice A0_3 l0_3.length c0_3) := (blk_cell BK260101.out 3).trans rfl; have hfz12_0 := blk_frozen BK260101.out 0; have hfz12_1 := blk_frozen BK260101.out 1; have hfz12_2 := blk_frozen BK260101.out 2; have hfz12_3 := blk_frozen BK260101.out 3; have p5 : 0 ≤ (a0_0 : Int) := of_decide_eq_true (by first | (with_reducible assumption) | assumption); have q5 : (a0_0 : Int) < ((t260105.length : Int) : Int) := of_decide_eq_true (by first | (with_reducible assumption) | assumption); obtain ⟨go5, co5, eo5, gb5, gl5, cl5, HG5⟩ := Kd.R_form HO260107.out (by omega); (first | cases eo5 | (injection eo5 with ea_ en_ ec_; (first | subst ea_ | (injection ea_ with ea_; subst ea_)); subst ec_; clear en_)); have GB5 := Aside0.mk gb5; have GG5 := Aside0.mk HG5; clear gb5 gl5 HG5; obtain ⟨hx5_0, hf5_0⟩ := Kd.R_celln 0 HO260107.out (a0_0 : Int) p5 q5; replace p5 := eq_true p5; replace q5 := eq_true q5; have n_ := Aside0.mk (Kd.R_mono (ok' := (fun k_ => some k_ ≠ (.slice Ao10 y260102.length co10 : Value).ownBlock)) HO260107.out (fun k_ hk => hk.2)); clear HO260107; have HO260107 := n_; clear n_; obtain ⟨hy13_, hz13_⟩ := Kd.R_celln 0 HO260107.out (a0_0 : Int) (of_decide_eq_true (by first | (with_reducible assumption) | assumption)) (of_decide_eq_true (by first | (with_reducible assumption) | assumption)); have HP13 := Kd.R_putg HO260107.out (a0_0 : Int) 0) | ((with_reducible refine gate_store (t := 3) (p := 17) rfl ?_); refine store_event (t := 3) (p := 17) (v := ?vo_w14) (w1 := (w11.setCell ⟨go5, (a0_0 : Int).toNat, none⟩ (.int .i64 0))) ?hg ?ho ?hn ?hr ?_; (case ho => rfl); (case hg => rfl); (case hn => rfl); (case hr => first | (go_simp; done) | (go_simp; rfl)); intro w14 hw; have hg : w11.grownBy w14 (some go5) := (by rw [hw]; exact HP13.2); have hp_ : Kd.R (Kd.int .i64) 3 w14 w.heap.size (fun k_ => some k_ ≠ (.slice Ao10 y260102.length co10 : Value).ownBlock) (.slice (some ⟨go5, 0, none⟩) t260105.length co5) y260108 := (by rw [hw, Ny260108.out]; exact HP13.1); clear HP13; have n0_ := Aside0.mk (blk_grown (g := gb260101) (o := .cells #[.int .i64 a0_0, .int .i64 a0_1, .int .i64 a0_2, .slice A0_3 l0_3.length c0_3] 32 (0, 0)) (by (with_reducible repeat (first | refine blk_drewN ?_ _ | refine blk_drew ?_ | refine blk_alloc ?_ _)); exact BK260101.out) hg (Kd.R_ne HO260107.out BK260101.out (by decide))); have n1_ := Aside0.mk (Kd.R_after (v := (.slice (some ⟨go5, 0, none⟩) t260105.length co5)) (v1 := (.slice (some ⟨go5, 0, none⟩) t260105.length co5)) (ok := (fun _ => True)) (by (with_reducible repeat (first | apply Kd.R_alloc | apply Kd.R_drewN | apply Kd.R_drew)); exact HO260104.out) hg (.inl rfl)); have n2_ := Aside0.mk (hp_); have n3_ := Aside0.mk ((by rw [hw]; exact below_set (HB.out) GB5.out : Below w.heap.size w w14)); clear BK260101; clear HO260104; clear HO260107; clear HB; have BK260101 := n0_; have HO260104 := n1_; have HO260107 := n2_; have HB := n3_; clear n0_ n1_ n2_ n3_; clear hg hw hp_))
   go_loopg [4, 5] k (fun kq v4 v5 w' => ∃ (x3_1 : List Int) (x4_1 : Int) (x5_1 : Bool), v4 = .int .i64 x4_1 ∧ v5 = .bool x5_1 ∧ Aside0 (impl_Board_far.l0 kq x3_1 x4_1 x5_1 a0_0 a0_1 a0_2 l0_3 = some r) ∧ Aside0 (kq ≤ k) ∧ Aside0 (Kd.R (Kd.int .i64) 3 w' w.heap.size (fun _ => True) (.slice (some ⟨go5, 0, none⟩) t260105.length co5) x3_1) ∧ Aside0 (w'.heap[gb260101]? = some (.cells #[.int .i64 a0_0, .int .i64 a0_1, .int .i64 a0_2, (.slice A0_3 l0_3.length c0_3)] 32 (0, 0))) ∧ Aside0 (Below w.heap.size w w'))
   case atStart => exact ⟨(y260108), (0), (true), (by first | rfl | (simp; done) | (simp [*]; done)), (by first | rfl | (simp; done) | (simp [*]; done)), H', ⟨Nat.le_refl _⟩, ⟨by (with_reducible repeat (first | apply Kd.R_alloc | apply Kd.R_drewN | apply Kd.R_drew)); exact Kd.R_mono HO260107.out (fun _ hk => trivial)⟩, ⟨by (with_reducible repeat (first | refine blk_drewN ?_ _ | refine blk_drew ?_ | refine blk_alloc ?_ _)); exact BK260101.out⟩, ⟨by repeat (first | (with_reducible first | exact HB.out | apply below_alloc | apply pw_below_drewN | apply below_drew1 | refine below_set ?_ GE260101.out) | exact HB.out)⟩⟩
   case round =>
    clear H'
    try clear c1
    try clear p2
    try clear c3
    try clear c3b0
    try clear c4
    try clear c4b0
    try clear p5
    try clear q5
    try clear hx5
    try clear hf5
    try clear p6
    try clear c13
    try clear hcz12_0
    try clear hcz12_1
    try clear hcz12_2
    try clear hcz12_3
    try clear hcz9_0
    try clear hcz9_1
    try clear hcz9_2
    try clear hcz9_3
    try clear hfz12_0
    try clear hfz12_1
    try clear hfz12_2
    try clear hfz12_3
    try clear hfz9_0
    try clear hfz9_1
    try clear hfz9_2
    try clear hfz9_3
    try clear hx5_0
    try clear p5
    try clear q5
    obtain ⟨x3_1, x4_1, x5_1, rfl, rfl, HA, HK1, HO_3, BK260101, HB⟩ := hrel
    have hl3_1 := (Kd.R_reads' HO_3.out).1
    rw [hl3_1] at HO_3
    (try simp only [hl3_1])
    (try simp only [hl3_1] at BK260101)
    cases gk with
    | zero => exact absurd HA.out (by simp [impl_Board_far.l0])
    | succ k1 =>
     have H := HA.out
     clear HA
     simp only [impl_Board_far.l0] at H
     by_cases c15 : x5_1 = true
     ·subst c15
      have H1 : (impl_Board_far.l1 k1 x3_1 x4_1 false a0_0 0 a0_0 a0_1 a0_2 l0_3) = some r := by rw [if_pos rfl] at H; exact H
      clear H
      have H := H1
      clear H1
      have H' := Aside0.mk H
      clear H
      have hcz16_0 : wr.cell? ⟨gb260101, 0, none⟩ = some (.int .i64 a0_0) := (blk_cell BK260101.out 0).trans rfl
      have hcz16_1 : wr.cell? ⟨gb260101, 1, none⟩ = some (.int .i64 a0_1) := (blk_cell BK260101.out 1).trans rfl
      have hcz16_2 : wr.cell? ⟨gb260101, 2, none⟩ = some (.int .i64 a0_2) := (blk_cell BK260101.out 2).trans rfl
      have hcz16_3 : wr.cell? ⟨gb260101, 3, none⟩ = some (.slice A0_3 l0_3.length c0_3) := (blk_cell BK260101.out 3).trans rfl
      have hfz16_0 := blk_frozen BK260101.out 0
      have hfz16_1 := blk_frozen BK260101.out 1
      have hfz16_2 := blk_frozen BK260101.out 2
      have hfz16_3 := blk_frozen BK260101.out 3
      go_wp2
      go_loopg [5, 23] k1 (fun kq v5 v23 w' => ∃ (x3_2 : List Int) (x5_2 : Bool) (x23_2 : Int), v5 = .bool x5_2 ∧ v23 = .int .i64 x23_2 ∧ Aside0 (impl_Board_far.l1 kq x3_2 x4_1 x5_2 a0_0 x23_2 a0_0 a0_1 a0_2 l0_3 = some r) ∧ Aside0 (kq ≤ k1) ∧ Aside0 (Kd.R (Kd.int .i64) 3 w' w.heap.size (fun _ => True) (.slice (some ⟨go5, 0, none⟩) x3_1.length co5) x3_2) ∧ Aside0 (w'.heap[gb260101]? = some (.cells #[.int .i64 a0_0, .int .i64 a0_1, .int .i64 a0_2, (.slice A0_3 l0_3.length c0_3)] 32 (0, 0))) ∧ Aside0 (Below w.heap.size w w'))
      case atStart => exact ⟨(x3_1), (false), (0), (by first | rfl | (simp; done) | (simp [*]; done)), (by first | rfl | (simp; done) | (simp [*]; done)), H', ⟨Nat.le_refl _⟩, ⟨by (try simp only [hl3_1]); (with_reducible repeat (first | apply Kd.R_alloc | apply Kd.R_drewN | apply Kd.R_drew)); exact HO_3.out⟩, ⟨by (try simp only [hl3_1]); (with_reducible repeat (first | refine blk_drewN ?_ _ | refine blk_drew ?_ | refine blk_alloc ?_ _)); exact BK260101.out⟩, ⟨by repeat (first | (with_reducible first | exact HB.out | apply below_alloc | apply pw_below_drewN | apply below_drew1 | refine below_set ?_ GE260101.out) | exact HB.out)⟩⟩
      case round =>
       clear H'
       try clear c1
       try clear p2
       try clear c3
       try clear c3b0
       try clear c4
       try clear c4b0
       try clear p5
       try clear q5
       try clear hx5
       try clear hf5
       try clear p6
       try clear c13
       try clear c15
       try clear hcz12_0
       try clear hcz12_1
       try clear hcz12_2
       try clear hcz12_3
       try clear hcz16_0
       try clear hcz16_1
       try clear hcz16_2
       try clear hcz16_3
       try clear hcz9_0
       try clear hcz9_1
       try clear hcz9_2
       try clear hcz9_3
       try clear hfz12_0
       try clear hfz12_1
       try clear hfz12_2
       try clear hfz12_3
       try clear hfz16_0
       try clear hfz16_1
       try clear hfz16_2
       try clear hfz16_3
       try clear hfz9_0
       try clear hfz9_1
       try clear hfz9_2
       try clear hfz9_3
       try clear hx5_0
       try clear p2
       try clear p5
       try clear p6
       try clear q5
       obtain ⟨x3_2, x5_2, x23_2, rfl, rfl, HA, HK2, HO_3, BK260101, HB⟩ := hrel
       have hl3_2 := (Kd.R_reads' HO_3.out).1
       rw [hl3_2] at HO_3
       (try simp only [hl3_2])
       (try simp only [hl3_2] at BK260101)
       cases gk with
       | zero => exact absurd HA.out (by simp [impl_Board_far.l1])
       | succ k2 =>
        have H := HA.out
        clear HA
        simp only [impl_Board_far.l1] at H
        by_cases c17 : x23_2 < a0_0
        ·rw [if_pos c17] at H
         have c17b0 : decide (x23_2 < a0_0) = true := decide_eq_true c17
         clear c17
         have HC18 := Aside0.mk H
         clear H
         go_upto_region 10 with (fail)
         go_cut [36] (fun v36 wc => ∃ (kq : Nat) (x36_17 : Bool), v36 = .bool x36_17 ∧ Aside0 (impl_Board_far.j2 kq x3_2 x4_1 x5_2 x23_2 a0_0 x23_2 x36_17 a0_0 a0_1 a0_2 l0_3 = some r) ∧ Aside0 (kq ≤ k2) ∧ Aside0 (Kd.R (Kd.int .i64) 3 wc w.heap.size (fun _ => True) (.slice (some ⟨go5, 0, none⟩) x3_2.length co5) x3_2) ∧ Aside0 (wc.heap[gb260101]? = some (.cells #[.int .i64 a0_0, .int .i64 a0_1, .int .i64 a0_2, (.slice A0_3 l0_3.length c0_3)] 32 (0, 0))) ∧ Aside0 (Below w.heap.size w wc))
         case first =>
          have H := HC18.out
          clear HC18
          by_cases c19 : 0 ≤ x23_2
          ·rw [if_pos c19] at H
           have c19b0 : decide (0 ≤ x23_2) = true := decide_eq_true c19
           clear c19
           (first | rw [c19b0] | (simp only [i64_w, i32_w]; rw [c19b0]) | skip)
           by_cases c20 : x23_2 < (x3_2.length : Int)
           ·rw [if_pos c20] at H
            have c20b0 : decide (x23_2 < (x3_2.length : Int)) = true := decide_eq_true c20
            (try (have c20b0z := c20b0; rw [hl3_1] at c20b0z))
            (try (have c20b0z := c20b0; rw [hl3_2] at c20b0z))
            clear c20
            by_cases c21 : (rd x3_2 x23_2) ≥ 0
            ·rw [if_pos c21] at H
             have c21b0 : decide (0 ≤ (rd x3_2 x23_2)) = true := decide_eq_true c21
             clear c21
             have H' := Aside0.mk H
             clear H
             have p260109 : 0 ≤ (x23_2 : Int) := of_decide_eq_true (by first | (with_reducible assumption) | assumption)
             have q260109 : x23_2 < (x3_2.length : Int) := of_decide_eq_true (by first | (with_reducible assumption) | assumption)
             obtain ⟨ad260109, e260109, hx260109_0⟩ := Kd.at_int (Kd.R_reads' HO_3.out).2.2 x23_2 p260109 q260109
             obtain rfl : (⟨go5, 0, none⟩ : Addr) = ad260109 := (by injection e260109)
             (first | simp only [add_plain] at hx260109_0 | simp only [add_at] at hx260109_0 | simp only [Addr.add, Nat.zero_add] at hx260109_0 | skip)
             replace p260109 := eq_true p260109
             replace q260109 := eq_true q260109
             go_wp2
             go_meet
             case rel => exact ⟨_, (true), (by first | rfl | (simp; done) | (simp [*]; done)), H', ⟨by have := HK1.out; have := HK2.out; first | omega | exact Nat.le_refl _⟩, ⟨by (try simp only [hl3_1]); (try simp only [hl3_2]); (with_reducible repeat (first | apply Kd.R_alloc | apply Kd.R_drewN | apply Kd.R_drew)); exact HO_3.out⟩, ⟨by (try simp only [hl3_1]); (try simp only [hl3_2]); (with_reducible repeat (first | refine blk_drewN ?_ _ | refine blk_drew ?_ | refine blk_alloc ?_ _)); exact BK260101.out⟩, ⟨by repeat (first | (with_reducible first | exact HB.out | apply below_alloc | apply pw_below_drewN | apply below_drew1 | refine below_set ?_ GE260101.out) | exact HB.out)⟩⟩
            ·rw [if_neg c21] at H
             have c21b0 : decide (0 ≤ (rd x3_2 x23_2)) = false := decide_eq_false c21
             clear c21
             replace H := Option.bind_eq_some_iff.mp H
             obtain ⟨t260110, A220, H⟩ := H
             replace H : (impl_Board_far.j2 k2 x3_2 x4_1 x5_2 x23_2 a0_0 x23_2 (!t260110) a0_0 a0_1 a0_2 l0_3) = some r := H
             have A22 := Aside0.mk A220
             clear A220
             have H' := Aside0.mk H
             clear H
             have p260109 : 0 ≤ (x23_2 : Int) := of_decide_eq_true (by first | (with_reducible assumption) | assumption)
             have q260109 : x23_2 < (x3_2.length : Int) := of_decide_eq_true (by first | (with_reducible assumption) | assumption)
             obtain ⟨ad260109, e260109, hx260109_0⟩ := Kd.at_int (Kd.R_reads' HO_3.out).2.2 x23_2 p260109 q260109
             obtain rfl : (⟨go5, 0, none⟩ : Addr) = ad260109 := (by injection e260109)
             (first | simp only [add_plain] at hx260109_0 | simp only [add_at] at hx260109_0 | simp only [Addr.add, Nat.zero_add] at hx260109_0 | skip)
             replace p260109 := eq_true p260109
             replace q260109 := eq_true q260109
             have hcz23_0 : wr.cell? ⟨gb260101, 0, none⟩ = some (.int .i64 a0_0) := (blk_cell BK260101.out 0).trans rfl
             have hcz23_1 : wr.cell? ⟨gb260101, 1, none⟩ = some (.int .i64 a0_1) := (blk_cell BK260101.out 1).trans rfl
             have hcz23_2 : wr.cell? ⟨gb260101, 2, none⟩ = some (.int .i64 a0_2) := (blk_cell BK260101.out 2).trans rfl
             have hcz23_3 : wr.cell? ⟨gb260101, 3, none⟩ = some (.slice A0_3 l0_3.length c0_3) := (blk_cell BK260101.out 3).trans rfl
             have hfz23_0 := blk_frozen BK260101.out 0
             have hfz23_1 := blk_frozen BK260101.out 1
             have hfz23_2 := blk_frozen BK260101.out 2
             have hfz23_3 := blk_frozen BK260101.out 3
             go_wp2_with (first | (go_at_call 166; (with_reducible refine (impl_Board_isSquare.calls k2 a0_0 a0_1 a0_2 _ _ l0_3 x23_2 t260110 _ ?side1 ?side2 A22.out).mono ?_); (case side1 => repeat (first | exact (Kd.C_below HR0_3.out HB.out) | (with_reducible refine Kd.C_alloc ?_ _) | (with_reducible refine Kd.C_drewN ?_ _) | (with_reducible refine Kd.C_drew ?_))); (case side2 => exact HC0_3.out); rintro e w24 ⟨rfl, hb⟩; have n0_ := Aside0.mk (Kd.R_below (by (with_reducible repeat (first | apply Kd.R_alloc | apply Kd.R_drewN | apply Kd.R_drew)); exact HO_3.out) hb); have n1_ := Aside0.mk (blk_below (g := gb260101) (o := .cells #[.int .i64 a0_0, .int .i64 a0_1, .int .i64 a0_2, .slice A0_3 l0_3.length c0_3] 32 (0, 0)) (by (with_reducible repeat (first | refine blk_drewN ?_ _ | refine blk_drew ?_ | refine blk_alloc ?_ _)); exact BK260101.out) hb); have n2_ := Aside0.mk (below_step (by repeat (first | (with_reducible first | exact HB.out | apply below_alloc | apply pw_below_drewN | apply below_drew1 | refine below_set ?_ GE260101.out) | exact HB.out)) hb); clear HO_3; clear BK260101; clear HB; have HO_3 := n0_; have BK260101 := n1_; have HB := n2_; clear n0_ n1_ n2_; (try clear hb); (try clear hb2); (try clear hk); (try clear hi)))
             go_meet
             case rel => exact ⟨_, (!t260110), (by first | rfl | (simp; done) | (simp [*]; done)), H', ⟨by have := HK1.out; have := HK2.out; first | omega | exact Nat.le_refl _⟩, ⟨by (try simp only [hl3_1]); (try simp only [hl3_2]); (with_reducible repeat (first | apply Kd.R_alloc | apply Kd.R_drewN | apply Kd.R_drew)); exact HO_3.out⟩, ⟨by (try simp only [hl3_1]); (try simp only [hl3_2]); (with_reducible repeat (first | refine blk_drewN ?_ _ | refine blk_drew ?_ | refine blk_alloc ?_ _)); exact BK260101.out⟩, ⟨by repeat (first | (with_reducible first | exact HB.out | apply below_alloc | apply pw_below_drewN | apply below_drew1 | refine below_set ?_ GE260101.out) | exact HB.out)⟩⟩
           ·rw [if_neg c20] at H
            exact absurd H (by simp)
          ·rw [if_neg c19] at H
           exact absurd H (by simp)
         case rest =>
          clear HC18
          try clear c1
          try clear c2
          try clear p2
          try clear q2
          try clear hx2
          try clear c3
          try clear c3b0
          try clear c4
          try clear c4b0
          try clear p5
          try clear q5
          try clear hx5
          try clear hf5
          try clear p6
          try clear c13
          try clear c15
          try clear c17
          try clear c17b0
          try clear c19
          try clear c19b0
          try clear c20
          try clear c20b0
          try clear c21
          try clear c21b0
          try clear hcz12_0
          try clear hcz12_1
          try clear hcz12_2
          try clear hcz12_3
          try clear hcz16_0
          try clear hcz16_1
          try clear hcz16_2
          try clear hcz16_3
          try clear hcz23_0
          try clear hcz23_1
          try clear hcz23_2
          try clear hcz23_3
          try clear hcz9_0
          try clear hcz9_1
          try clear hcz9_2
          try clear hcz9_3
          try clear hfz12_0
          try clear hfz12_1
          try clear hfz12_2
          try clear hfz12_3
          try clear hfz16_0
          try clear hfz16_1
          try clear hfz16_2
          try clear hfz16_3
          try clear hfz23_0
          try clear hfz23_1
          try clear hfz23_2
          try clear hfz23_3
          try clear hfz9_0
          try clear hfz9_1
          try clear hfz9_2
          try clear hfz9_3
          try clear hx260109_0
          try clear hx5_0
          try clear p2
          try clear p260109
          try clear p5
          try clear p6
          try clear q260109
          try clear q5
          obtain ⟨kq, x36_17, rfl, HA, HJ17, HO_3, BK260101, HB⟩ := hcut
          cases kq with
          | zero => exact absurd HA.out (by simp [impl_Board_far.j2])
          | succ kj17 =>
           have H := HA.out
           clear HA
           simp only [impl_Board_far.j2] at H
           by_cases c25 : x36_17 = true
           ·subst c25
            have H1 : (impl_Board_far.l1 kj17 x3_2 x4_1 x5_2 a0_0 (wrap64 (x23_2 + 1)) a0_0 a0_1 a0_2 l0_3) = some r := by rw [if_pos rfl] at H; exact H
            clear H
            have H := H1
            clear H1
            have H' := Aside0.mk H
            clear H
            go_wp2
            (try simp only [← hl3_2])
            go_roundg kj17
            case measure => have := HK1.out; have := HK2.out; have := HJ17.out; omega
            case rel => exact ⟨(x3_2), (x5_2), (wrap64 (x23_2 + 1)), (by first | rfl | (simp; done) | (simp [*]; done)), (by first | rfl | (simp; done) | (simp [*]; done)), H', ⟨by have := HK1.out; have := HK2.out; have := HJ17.out; omega⟩, ⟨by (try simp only [hl3_1]); (try simp only [hl3_2]); (with_reducible repeat (first | apply Kd.R_alloc | apply Kd.R_drewN | apply Kd.R_drew)); exact HO_3.out⟩, ⟨by (try simp only [hl3_1]); (try simp only [hl3_2]); (with_reducible repeat (first | refine blk_drewN ?_ _ | refine blk_drew ?_ | refine blk_alloc ?_ _)); exact BK260101.out⟩, ⟨by repeat (first | (with_reducible first | exact HB.out | apply below_alloc | apply pw_below_drewN | apply below_drew1 | refine below_set ?_ GE260101.out) | exact HB.out)⟩⟩
           ·replace c25 := Bool.eq_false_iff.mpr c25
            subst c25
            have H1 : ((impl_Board_landings.f kj17 a0_0 a0_1 a0_2 l0_3 x23_2).bind fun t260111 => (impl_Board_far.l2 kj17 x3_2 x4_1 x5_2 x23_2 a0_0 x23_2 t260111 (t260111.length : Int) 0 a0_0 a0_1 a0_2 l0_3)) = some r := by rw [if_neg (show ¬ (false = true) by decide)] at H; exact H
            clear H
            have H := H1
            clear H1
            replace H := Option.bind_eq_some_iff.mp H
            obtain ⟨t260111, A260, H⟩ := H
            replace H : (impl_Board_far.l2 kj17 x3_2 x4_1 x5_2 x23_2 a0_0 x23_2 t260111 (t260111.length : Int) 0 a0_0 a0_1 a0_2 l0_3) = some r := H
            have A26 := Aside0.mk A260
            clear A260
            have H' := Aside0.mk H
            clear H
            have hcz27_0 : wc.cell? ⟨gb260101, 0, none⟩ = some (.int .i64 a0_0) := (blk_cell BK260101.out 0).trans rfl
            have hcz27_1 : wc.cell? ⟨gb260101, 1, none⟩ = some (.int .i64 a0_1) := (blk_cell BK260101.out 1).trans rfl
            have hcz27_2 : wc.cell? ⟨gb260101, 2, none⟩ = some (.int .i64 a0_2) := (blk_cell BK260101.out 2).trans rfl
            have hcz27_3 : wc.cell? ⟨gb260101, 3, none⟩ = some (.slice A0_3 l0_3.length c0_3) := (blk_cell BK260101.out 3).trans rfl
            have hfz27_0 := blk_frozen BK260101.out 0
            have hfz27_1 := blk_frozen BK260101.out 1
            have hfz27_2 := blk_frozen BK260101.out 2
            have hfz27_3 := blk_frozen BK260101.out 3
            go_wp2_with (first | ((with_reducible refine gate_callee (f := 145) rfl ?_); refine goesL_ (some 39) rfl rfl Try.func145 (by kernel_rfl) rfl #[.agg #[.int .i64 a0_0, .int .i64 a0_1, .int .i64 a0_2, .slice A0_3 l0_3.length c0_3], .int .i64 x23_2] rfl (by (try simp only [List.map_toArray, List.map_cons, List.map_nil]); first | done | rfl | (simp only [List.length_drop, List.length_take]; rfl)) ?_; (with_reducible refine (impl_Board_landings.calls kj17 a0_0 a0_1 a0_2 _ _ l0_3 x23_2 t260111 _ ?side1 ?side2 A26.out).mono ?_); (case side1 => repeat (first | exact (Kd.C_below HR0_3.out HB.out) | (with_reducible refine Kd.C_alloc ?_ _) | (with_reducible refine Kd.C_drewN ?_ _) | (with_reducible refine Kd.C_drew ?_))); (case side2 => exact HC0_3.out); rintro e w28 ⟨v260112, rfl, ho0, hb⟩; refine ⟨_, rfl, ?_⟩; have n0_ := Aside0.mk (Kd.R_elder' (by (with_reducible repeat (first | apply Kd.R_alloc | apply Kd.R_drewN | apply Kd.R_drew)); exact HO_3.out) (Kd.R_base ho0) hb); have n1_ := Aside0.mk (Kd.R_lower (Kd.R_new' ho0 (Kd.R_lt (by (with_reducible repeat (first | apply Kd.R_alloc | apply Kd.R_drewN | apply Kd.R_drew)); exact HO_3.out))) (below_size (by repeat (first | (with_reducible first | exact HB.out | apply below_alloc | apply pw_below_drewN | apply below_drew1 | refine below_set ?_ GE260101.out) | exact HB.out)))); have n2_ := Aside0.mk (blk_below (g := gb260101) (o := .cells #[.int .i64 a0_0, .int .i64 a0_1, .int .i64 a0_2, .slice A0_3 l0_3.length c0_3] 32 (0, 0)) (by (with_reducible repeat (first | refine blk_drewN ?_ _ | refine blk_drew ?_ | refine blk_alloc ?_ _)); exact BK260101.out) hb); have n3_ := Aside0.mk (below_step (by repeat (first | (with_reducible first | exact HB.out | apply below_alloc | apply pw_below_drewN | apply below_drew1 | refine below_set ?_ GE260101.out) | exact HB.out)) hb); clear HO_3; clear BK260101; clear HB; have HO_3 := n0_; have HO260113 := n1_; have BK260101 := n2_; have HB := n3_; clear n0_ n1_ n2_ n3_; (try clear hb); (try clear hb2); (try clear hk); (try clear hi); (try clear ho0); obtain ⟨Ao29, co29, eo29⟩ := Kd.R_slice HO260113.out; subst eo29))
            go_loopg [5, 41] kj17 (fun kq v5 v41 w' => ∃ (x3_4 : List Int) (x5_4 : Bool) (x41_4 : Int), v5 = .bool x5_4 ∧ v41 = .int .i64 x41_4 ∧ Aside0 (impl_Board_far.l2 kq x3_4 x4_1 x5_4 x23_2 a0_0 x23_2 t260111 (t260111.length : Int) x41_4 a0_0 a0_1 a0_2 l0_3 = some r) ∧ Aside0 (kq ≤ kj17) ∧ Aside0 (Kd.R (Kd.int .i64) 3 w' w.heap.size (fun k_ => some k_ ≠ ((.slice Ao29 t260111.length co29) : Value).ownBlock) (.slice (some ⟨go5, 0, none⟩) x3_2.length co5) x3_4) ∧ Aside0 (Kd.R (Kd.int .i64) 3 w' w.heap.size (fun k_ => some k_ ≠ ((.slice (some ⟨go5, 0, none⟩) x3_2.length co5) : Value).ownBlock) (.slice Ao29 t260111.length co29) t260111) ∧ Aside0 (w'.heap[gb260101]? = some (.cells #[.int .i64 a0_0, .int .i64 a0_1, .int .i64 a0_2, (.slice A0_3 l0_3.length c0_3)] 32 (0, 0))) ∧ Aside0 (Below w.heap.size w w'))
            case atStart => exact ⟨(x3_2), (x5_2), (0), (by first | rfl | (simp; done) | (simp [*]; done)), (by first | rfl | (simp; done) | (simp [*]; done)), H', ⟨Nat.le_refl _⟩, ⟨by (try simp only [hl3_1]); (try simp only [hl3_2]); (with_reducible repeat (first | apply Kd.R_alloc | apply Kd.R_drewN | apply Kd.R_drew)); exact Kd.R_mono HO_3.out (fun _ hk => hk.2)⟩, ⟨by (try simp only [hl3_1]); (try simp only [hl3_2]); (with_reducible repeat (first | apply Kd.R_alloc | apply Kd.R_drewN | apply Kd.R_drew)); exact Kd.R_mono HO260113.out (fun _ hk => hk.2)⟩, ⟨by (try simp only [hl3_1]); (try simp only [hl3_2]); (with_reducible repeat (first | refine blk_drewN ?_ _ | refine blk_drew ?_ | refine blk_alloc ?_ _)); exact BK260101.out⟩, ⟨by repeat (first | (with_reducible first | exact HB.out | apply below_alloc | apply pw_below_drewN | apply below_drew1 | refine below_set ?_ GE260101.out) | exact HB.out)⟩⟩
            case round =>
             clear H'
             try clear c1
             try clear c2
             try clear p2
             try clear q2
             try clear hx2
             try clear c3
             try clear c3b0
             try clear c4
             try clear c4b0
             try clear p5
             try clear q5
             try clear hx5
             try clear hf5
             try clear p6
             try clear c13
             try clear c14
             try clear c15
             try clear c17
             try clear c17b0
             try clear c19
             try clear c19b0
             try clear c20
             try clear c20b0
             try clear c21
             try clear c21b0
             try clear c25
             try clear p26
             try clear q26
             try clear hx26
             try clear hcz12_0
             try clear hcz12_1
             try clear hcz12_2
             try clear hcz12_3
             try clear hcz16_0
             try clear hcz16_1
             try clear hcz16_2
             try clear hcz16_3
             try clear hcz23_0
             try clear hcz23_1
             try clear hcz23_2
             try clear hcz23_3
             try clear hcz27_0
             try clear hcz27_1
             try clear hcz27_2
             try clear hcz27_3
             try clear hcz9_0
             try clear hcz9_1
             try clear hcz9_2
             try clear hcz9_3
             try clear hfz12_0
             try clear hfz12_1
             try clear hfz12_2
             try clear hfz12_3
             try clear hfz16_0
             try clear hfz16_1
             try clear hfz16_2
             try clear hfz16_3
             try clear hfz23_0
             try clear hfz23_1
             try clear hfz23_2
             try clear hfz23_3
             try clear hfz27_0
             try clear hfz27_1
             try clear hfz27_2
             try clear hfz27_3
             try clear hfz9_0
             try clear hfz9_1
             try clear hfz9_2
             try clear hfz9_3
             try clear hx260109_0
             try clear hx5_0
             try clear p2
             try clear p260109
             try clear p5
             try clear p6
             try clear q2
             try clear q260109
             try clear q5
             obtain ⟨x3_4, x5_4, x41_4, rfl, rfl, HA, HK4, HO_3, HO_39, BK260101, HB⟩ := hrel
             have hl3_4 := (Kd.R_reads' HO_3.out).1
             rw [hl3_4] at HO_3
             (try simp only [hl3_4])
             (try simp only [hl3_4] at BK260101)
             (try simp only [hl3_4] at HO_39)
             cases gk with
             | zero => exact absurd HA.out (by simp [impl_Board_far.l2])
             | succ k4 =>
              have H := HA.out
              clear HA
              simp only [impl_Board_far.l2] at H
              by_cases c30 : x41_4 < (t260111.length : Int)
              ·rw [if_pos c30] at H
               have c30b0 : decide (x41_4 < (t260111.length : Int)) = true := decide_eq_true c30
               (try (have c30b0z := c30b0; rw [hl3_1] at c30b0z))
               (try (have c30b0z := c30b0; rw [hl3_2] at c30b0z))
               (try (have c30b0z := c30b0; rw [hl3_4] at c30b0z))
               clear c30
               by_cases c31 : 0 ≤ x41_4
               ·rw [if_pos c31] at H
                have c31b0 : decide (0 ≤ x41_4) = true := decide_eq_true c31
                clear c31
                by_cases c32 : x41_4 < (t260111.length : Int)
                ·rw [if_pos c32] at H
                 have c32b0 : decide (x41_4 < (t260111.length : Int)) = true := decide_eq_true c32
                 (try (have c32b0z := c32b0; rw [hl3_1] at c32b0z))
                 (try (have c32b0z := c32b0; rw [hl3_2] at c32b0z))
                 (try (have c32b0z := c32b0; rw [hl3_4] at c32b0z))
                 clear c32
                 by_cases c33 : 0 ≤ (rd t260111 x41_4)
                 ·rw [if_pos c33] at H
                  have c33b0 : decide (0 ≤ (rd t260111 x41_4)) = true := decide_eq_true c33
                  clear c33
                  by_cases c34 : (rd t260111 x41_4) < (x3_4.length : Int)
                  ·rw [if_pos c34] at H
                   have c34b0 : decide ((rd t260111 x41_4) < (x3_4.length : Int)) = true := decide_eq_true c34
                   (try (have c34b0z := c34b0; rw [hl3_1] at c34b0z))
                   (try (have c34b0z := c34b0; rw [hl3_2] at c34b0z))
                   (try (have c34b0z := c34b0; rw [hl3_4] at c34b0z))
                   clear c34
                   by_cases c35 : (rd x3_4 (rd t260111 x41_4)) = x4_1
                   ·rw [if_pos c35] at H
                    have c35b0 : ((rd x3_4 (rd t260111 x41_4)) == x4_1) = true := beq_iff_eq.mpr c35
                    have c35b1 : ((rd x3_4 (rd t260111 x41_4)) != x4_1) = false := bne_eq_false_iff_eq.mpr c35
                    clear c35
                    by_cases c36 : 0 ≤ x23_2
                    ·rw [if_pos c36] at H
                     have c36b0 : decide (0 ≤ x23_2) = true := decide_eq_true c36
                     clear c36
                     by_cases c37 : x23_2 < (x3_4.length : Int)
                     ·rw [if_pos c37] at H
                      have c37b0 : decide (x23_2 < (x3_4.length : Int)) = true := decide_eq_true c37
                      (try (have c37b0z := c37b0; rw [hl3_1] at c37b0z))
                      (try (have c37b0z := c37b0; rw [hl3_2] at c37b0z))
                      (try (have c37b0z := c37b0; rw [hl3_4] at c37b0z))
                      clear c37
                      obtain ⟨y260116, hy260116⟩ : ∃ y_ : List Int, y_ = (x3_4.set (x23_2 : Int).toNat (wrap64 (x4_1 + 1))) := ⟨_, rfl⟩
                      replace H : (impl_Board_far.l2 k4 y260116 x4_1 true x23_2 a0_0 x23_2 t260111 (t260111.length : Int) (wrap64 (x41_4 + 1)) a0_0 a0_1 a0_2 l0_3) = some r := by first | (rw [hy260116]; with_reducible exact H) | (have H2_ := (Option.bind_some _ _).symm.trans H; rw [hy260116]; with_reducible exact H2_) | (have H2_ := (Option.bind_some _ _).symm.trans H; with_reducible exact H2_) | with_reducible exact H | (rw [hy260116]; exact H) | exact H
                      have Ny260116 := Aside0.mk hy260116
                      clear hy260116
                      have H' := Aside0.mk H
                      clear H
                      have p260114 : 0 ≤ (x41_4 : Int) := of_decide_eq_true (by first | (with_reducible assumption) | assumption)
                      have q260114 : x41_4 < (t260111.length : Int) := of_decide_eq_true (by first | (with_reducible assumption) | assumption)
                      obtain ⟨ad260114, e260114, hx260114_0⟩ := Kd.at_int (Kd.R_reads' HO_39.out).2.2 x41_4 p260114 q260114
                      cases e260114
                      replace p260114 := eq_true p260114
                      replace q260114 := eq_true q260114
                      have p260115 : 0 ≤ ((rd t260111 x41_4) : Int) := of_decide_eq_true (by first | (with_reducible assumption) | assumption)
                      have q260115 : (rd t260111 x41_4) < (x3_4.length : Int) := of_decide_eq_true (by first | (with_reducible assumption) | assumption)
                      obtain ⟨ad260115, e260115, hx260115_0⟩ := Kd.at_int (Kd.R_reads' HO_3.out).2.2 (rd t260111 x41_4) p260115 q260115
                      obtain rfl : (⟨go5, 0, none⟩ : Addr) = ad260115 := (by injection e260115)
                      (first | simp only [add_plain] at hx260115_0 | simp only [add_at] at hx260115_0 | simp only [Addr.add, Nat.zero_add] at hx260115_0 | skip)
                      replace p260115 := eq_true p260115
                      replace q260115 := eq_true q260115
                      have p38 : 0 ≤ (x23_2 : Int) := of_decide_eq_true (by first | (with_reducible assumption) | assumption)
                      have q38 : (x23_2 : Int) < ((x3_4.length : Int) : Int) := of_decide_eq_true (by first | (with_reducible assumption) | assumption)
                      obtain ⟨hx38_0, hf38_0⟩ := Kd.R_celln 0 HO_3.out (x23_2 : Int) p38 q38
                      replace p38 := eq_true p38
                      replace q38 := eq_true q38
                      have HP39 := Kd.R_putg HO_3.out (x23_2 : Int) (wrap64 (x4_1 + 1))
                      go_wp2_with (first | ((with_reducible refine gate_store (t := 3) (p := 55) rfl ?_); refine store_event (t := 3) (p := 55) (v := ?vo_w40) (w1 := (wr.setCell ⟨go5, (x23_2 : Int).toNat, none⟩ (.int .i64 (wrap64 (x4_1 + 1))))) ?hg ?ho ?hn ?hr ?_; (case ho => rfl); (case hg => rfl); (case hn => rfl); (case hr => first | (go_simp; done) | (go_simp; rfl)); intro w40 hw; have hg : wr.grownBy w40 (some go5) := (by rw [hw]; exact HP39.2); have hp_ : Kd.R (Kd.int .i64) 3 w40 w.heap.size (fun k_ => some k_ ≠ (.slice (some ad260114) t260111.length co29 : Value).ownBlock) (.slice (some ⟨go5, 0, none⟩) x3_4.length co5) y260116 := (by rw [hw, Ny260116.out]; exact HP39.1); clear HP39; have n0_ := Aside0.mk (hp_); have n1_ := Aside0.mk (Kd.R_after (v := (.slice (some ⟨go5, 0, none⟩) x3_4.length co5)) (v1 := (.slice (some ⟨go5, 0, none⟩) x3_4.length co5)) (ok := (fun _ => True)) (by (with_reducible repeat (first | apply Kd.R_alloc | apply Kd.R_drewN | apply Kd.R_drew)); exact Kd.R_mono HO_39.out (fun _ hk => ⟨trivial, hk⟩)) hg (.inl rfl)); have n2_ := Aside0.mk (blk_grown (g := gb260101) (o := .cells #[.int .i64 a0_0, .int .i64 a0_1, .int .i64 a0_2, .slice A0_3 l0_3.length c0_3] 32 (0, 0)) (by (with_reducible repeat (first | refine blk_drewN ?_ _ | refine blk_drew ?_ | refine blk_alloc ?_ _)); exact BK260101.out) hg (Kd.R_ne HO_3.out BK260101.out (by decide))); have n3_ := Aside0.mk ((by rw [hw]; exact below_set (HB.out) GB5.out : Below w.heap.size w w40)); clear HO_3; clear HO_39; clear BK260101; clear HB; have HO_3 := n0_; have HO_39 := n1_; have BK260101 := n2_; have HB := n3_; clear n0_ n1_ n2_ n3_; clear hg hw hp_))
                      (try simp only [← hl3_4])
                      go_roundg k4
                      case measure => have := HK1.out; have := HK2.out; have := HJ17.out; have := HK4.out; omega
                      case rel => exact ⟨(y260116), (true), (wrap64 (x41_4 + 1)), (by first | rfl | (simp; done) | (simp [*]; done)), (by first | rfl | (simp; done) | (simp [*]; done)), H', ⟨by have := HK1.out; have := HK2.out; have := HJ17.out; have := HK4.out; omega⟩, ⟨by (try simp only [hl3_1]); (try simp only [hl3_2]); (try simp only [hl3_4]); (with_reducible repeat (first | apply Kd.R_alloc | apply Kd.R_drewN | apply Kd.R_drew)); exact HO_3.out⟩, ⟨by (try simp only [hl3_1]); (try simp only [hl3_2]); (try simp only [hl3_4]); (with_reducible repeat (first | apply Kd.R_alloc | apply Kd.R_drewN | apply Kd.R_drew)); exact Kd.R_mono HO_39.out (fun _ hk => hk.2)⟩, ⟨by (try simp only [hl3_1]); (try simp only [hl3_2]); (try simp only [hl3_4]); (with_reducible repeat (first | refine blk_drewN ?_ _ | refine blk_drew ?_ | refine blk_alloc ?_ _)); exact BK260101.out⟩, ⟨by repeat (first | (with_reducible first | exact HB.out | apply below_alloc | apply pw_below_drewN | apply below_drew1 | refine below_set ?_ GE260101.out) | exact HB.out)⟩⟩
                     ·rw [if_neg c37] at H
                      exact absurd H (by simp)
                    ·rw [if_neg c36] at H
                     exact absurd H (by simp)
                   ·rw [if_neg c35] at H
                    have c35b0 : ((rd x3_4 (rd t260111 x41_4)) == x4_1) = false := beq_eq_false_iff_ne.mpr c35
                    have c35b1 : ((rd x3_4 (rd t260111 x41_4)) != x4_1) = true := bne_iff_ne.mpr c35
                    have H' := Aside0.mk H
                    clear H
                    have p260114 : 0 ≤ (x41_4 : Int) := of_decide_eq_true (by first | (with_reducible assumption) | assumption)
                    have q260114 : x41_4 < (t260111.length : Int) := of_decide_eq_true (by first | (with_reducible assumption) | assumption)
                    obtain ⟨ad260114, e260114, hx260114_0⟩ := Kd.at_int (Kd.R_reads' HO_39.out).2.2 x41_4 p260114 q260114
                    cases e260114
                    replace p260114 := eq_true p260114
                    replace q260114 := eq_true q260114
                    have p260115 : 0 ≤ ((rd t260111 x41_4) : Int) := of_decide_eq_true (by first | (with_reducible assumption) | assumption)
                    have q260115 : (rd t260111 x41_4) < (x3_4.length : Int) := of_decide_eq_true (by first | (with_reducible assumption) | assumption)
                    obtain ⟨ad260115, e260115, hx260115_0⟩ := Kd.at_int (Kd.R_reads' HO_3.out).2.2 (rd t260111 x41_4) p260115 q260115
                    obtain rfl : (⟨go5, 0, none⟩ : Addr) = ad260115 := (by injection e260115)
                    (first | simp only [add_plain] at hx260115_0 | simp only [add_at] at hx260115_0 | simp only [Addr.add, Nat.zero_add] at hx260115_0 | skip)
                    replace p260115 := eq_true p260115
                    replace q260115 := eq_true q260115
                    go_wp2
                    (try simp only [← hl3_4])
                    go_roundg k4
                    case measure => have := HK1.out; have := HK2.out; have := HJ17.out; have := HK4.out; omega
                    case rel => exact ⟨(x3_4), (x5_4), (wrap64 (x41_4 + 1)), (by first | rfl | (simp; done) | (simp [*]; done)), (by first | rfl | (simp; done) | (simp [*]; done)), H', ⟨by have := HK1.out; have := HK2.out; have := HJ17.out; have := HK4.out; omega⟩, ⟨by (try simp only [hl3_1]); (try simp only [hl3_2]); (try simp only [hl3_4]); (with_reducible repeat (first | apply Kd.R_alloc | apply Kd.R_drewN | apply Kd.R_drew)); exact HO_3.out⟩, ⟨by (try simp only [hl3_1]); (try simp only [hl3_2]); (try simp only [hl3_4]); (with_reducible repeat (first | apply Kd.R_alloc | apply Kd.R_drewN | apply Kd.R_drew)); exact HO_39.out⟩, ⟨by (try simp only [hl3_1]); (try simp only [hl3_2]); (try simp only [hl3_4]); (with_reducible repeat (first | refine blk_drewN ?_ _ | refine blk_drew ?_ | refine blk_alloc ?_ _)); exact BK260101.out⟩, ⟨by repeat (first | (with_reducible first | exact HB.out | apply below_alloc | apply pw_below_drewN | apply below_drew1 | refine below_set ?_ GE260101.out) | exact HB.out)⟩⟩
                  ·rw [if_neg c34] at H
                   exact absurd H (by simp)
                 ·rw [if_neg c33] at H
                  exact absurd H (by simp)
                ·rw [if_neg c32] at H
                 exact absurd H (by simp)
               ·rw [if_neg c31] at H
                exact absurd H (by simp)
              ·rw [if_neg c30] at H
               have c30b0 : decide (x41_4 < (t260111.length : Int)) = false := decide_eq_false c30
               (try (have c30b0z := c30b0; rw [hl3_1] at c30b0z))
               (try (have c30b0z := c30b0; rw [hl3_2] at c30b0z))
               (try (have c30b0z := c30b0; rw [hl3_4] at c30b0z))
               clear c30
               have H' := Aside0.mk H
               clear H
               go_wp2
               (try simp only [← hl3_2, ← hl3_4])
               go_roundg k4
               case measure => have := HK1.out; have := HK2.out; have := HJ17.out; have := HK4.out; omega
               case rel => exact ⟨(x3_4), (x5_4), (wrap64 (x23_2 + 1)), (by first | rfl | (simp; done) | (simp [*]; done)), (by first | rfl | (simp; done) | (simp [*]; done)), H', ⟨by have := HK1.out; have := HK2.out; have := HJ17.out; have := HK4.out; omega⟩, ⟨by (try simp only [hl3_1]); (try simp only [hl3_2]); (try simp only [hl3_4]); (with_reducible repeat (first | apply Kd.R_alloc | apply Kd.R_drewN | apply Kd.R_drew)); exact Kd.R_mono HO_3.out (fun _ hk => trivial)⟩, ⟨by (try simp only [hl3_1]); (try simp only [hl3_2]); (try simp only [hl3_4]); (with_reducible repeat (first | refine blk_drewN ?_ _ | refine blk_drew ?_ | refine blk_alloc ?_ _)); exact BK260101.out⟩, ⟨by repeat (first | (with_reducible first | exact HB.out | apply below_alloc | apply pw_below_drewN | apply below_drew1 | refine below_set ?_ GE260101.out) | exact HB.out)⟩⟩
        ·rw [if_neg c17] at H
         have c17b0 : decide (x23_2 < a0_0) = false := decide_eq_false c17
         clear c17
         have H' := Aside0.mk H
         clear H
         go_wp2
         (try simp only [← hl3_1, ← hl3_2])
         go_roundg k2
         case measure => have := HK1.out; have := HK2.out; omega
         case rel => exact ⟨(x3_2), (wrap64 (x4_1 + 1)), (x5_2), (by first | rfl | (simp; done) | (simp [*]; done)), (by first | rfl | (simp; done) | (simp [*]; done)), H', ⟨by have := HK1.out; have := HK2.out; omega⟩, ⟨by (try simp only [hl3_1]); (try simp only [hl3_2]); (with_reducible repeat (first | apply Kd.R_alloc | apply Kd.R_drewN | apply Kd.R_drew)); exact HO_3.out⟩, ⟨by (try simp only [hl3_1]); (try simp only [hl3_2]); (with_reducible repeat (first | refine blk_drewN ?_ _ | refine blk_drew ?_ | refine blk_alloc ?_ _)); exact BK260101.out⟩, ⟨by repeat (first | (with_reducible first | exact HB.out | apply below_alloc | apply pw_below_drewN | apply below_drew1 | refine below_set ?_ GE260101.out) | exact HB.out)⟩⟩
     ·replace c15 := Bool.eq_false_iff.mpr c15
      subst c15
      have H1 : (some x3_1) = some r := by rw [if_neg (show ¬ (false = true) by decide)] at H; exact H
      clear H
      have H := H1
      clear H1
      obtain rfl := Option.some.inj H
      go_wp2
      go_ret
      exact ⟨_, by first | rfl | (simp [errW_none, errW_some] <;> rfl) | (simp [*, errW_none, errW_some] <;> rfl), by (with_reducible repeat (first | apply Kd.R_alloc | apply Kd.R_drewN | apply Kd.R_drew)); exact HO_3.out, by repeat (first | (with_reducible first | exact HB.out | apply below_alloc | apply pw_below_drewN | apply below_drew1 | refine below_set ?_ GE260101.out) | exact HB.out)⟩
  ·rw [if_neg c4] at H
   exact absurd H (by simp)
 ·rw [if_neg c3] at H
  exact absurd H (by simp)

end Go.Proofs.Ytkobjjadojpjfaa.Pr
