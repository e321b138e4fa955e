/- Proved here: the filter of a board's jumps by a function value, and what the two filters of snakes and ladders answer; no condition beyond the function value's own contract. -/
import Derived.Test.YtkobjjadojpjfaaHFvJ
import Derived.Test.YtkobjjadojpjfaaHClone
import Derived.Test.YtkobjjadojpjfaaFImplJump198
namespace Go.Proofs.Ytkobjjadojpjfaa.Pr
open Go.RowKit Go.Proofs.YtkobjjadojpjfaaW.PrintWords Go.Proofs.YtkobjjadojpjfaaW.PrintLast Go.Proofs.YtkobjjadojpjfaaW.PrintMore
set_option linter.unusedVariables false
set_option linter.unusedSimpArgs false

def snakeV : FvJ := ⟨142, #[], fun a b => some (decide (b < a))⟩
def ladderV : FvJ := ⟨141, #[], fun a b => some (decide (a < b))⟩

set_option maxHeartbeats 2000000 in
theorem snakeV_ok {w : World} : FvJ.Ok snakeV w := by
  refine ⟨enters_pr Try.func142 (by kernel_rfl) rfl, fun W a b r _ h => ?_⟩
  show Calls Try.prog 142 #[.agg #[.int .i64 a, .int .i64 b]] W _
  have h : some (decide (b < a)) = some r := h
  obtain rfl := Option.some.inj h
  clear h
  have hu := Try.underlying27
  go_enter Try.func142, Try.ntmps142
  go_wp2_with (first | ((with_reducible refine gate_dst (N := 1) rfl ?_); refine box_event ?hg (N := 1) ?hd (cs := #[.int .i64 a, .int .i64 b]) (t := 27) ?hr ?_; (case hd => rfl); (case hg => rfl); (case hr => first | (go_simp; done) | (go_simp; rfl)); intro g2 hg w1 hbox hb; clear hg; obtain ⟨hcz0, hcz1, hfz0, hfz1⟩ := blk2 hbox))
  go_ret
  exact ⟨rfl, hb⟩

set_option maxHeartbeats 2000000 in
theorem ladderV_ok {w : World} : FvJ.Ok ladderV w := by
  refine ⟨enters_pr Try.func141 (by kernel_rfl) rfl, fun W a b r _ h => ?_⟩
  show Calls Try.prog 141 #[.agg #[.int .i64 a, .int .i64 b]] W _
  have h : some (decide (a < b)) = some r := h
  obtain rfl := Option.some.inj h
  clear h
  have hu := Try.underlying27
  go_enter Try.func141, Try.ntmps141
  go_wp2_with (first | ((with_reducible refine gate_dst (N := 1) rfl ?_); refine box_event ?hg (N := 1) ?hd (cs := #[.int .i64 a, .int .i64 b]) (t := 27) ?hr ?_; (case hd => rfl); (case hg => rfl); (case hr => first | (go_simp; done) | (go_simp; rfl)); intro g2 hg w1 hbox hb; clear hg; obtain ⟨hcz0, hcz1, hfz0, hfz1⟩ := blk2 hbox))
  go_ret
  exact ⟨rfl, hb⟩

/-- the function value that answers the other way -/
def negV (x : FvJ) : FvJ := ⟨199, #[], fun a b => (fvJ_.f x a b).map (!·)⟩
/-- the same, as it lies in memory: it holds where x lies -/
def negAt (x : FvJ) (g : Nat) : FvJ := ⟨199, #[.pointer (some ⟨g, 0, none⟩)], fun a b => (fvJ_.f x a b).map (!·)⟩

theorem index_p {x y : FvJ} (h : x.p = y.p) : ∀ (k : Nat) (l : List S27) (n i : Int), impl_Jump_213.l0 k l x n i = impl_Jump_213.l0 k l y n i
  | 0, _, _, _ => rfl
  | k + 1, l, n, i => by
    simp only [impl_Jump_213.l0, fvJ_.f, h, index_p h k]

theorem delete_p {x y : FvJ} (h : x.p = y.p) : ∀ (k : Nat) (l : List S27) (n i : Int), impl_Jump_198.l0 k l x n i = impl_Jump_198.l0 k l y n i
  | 0, _, _, _ => rfl
  | k + 1, l, n, i => by
    simp only [impl_Jump_198.l0, fvJ_.f, h, delete_p h k]

theorem deleteF_p {x y : FvJ} (h : x.p = y.p) (k : Nat) (l : List S27) : impl_Jump_198.f k l x = impl_Jump_198.f k l y := by
  simp only [impl_Jump_198.f, impl_Jump_213.f, index_p h, delete_p h]

set_option maxHeartbeats 4000000 in
theorem negAt_ok {x : FvJ} {w : World} {g : Nat} (hp : FvJ.Ok x w) (hx : w.heap[g]? = some (.cells #[FvJ.v x] 107 (0, 0))) : FvJ.Ok (negAt x g) w := by
  refine ⟨enters_pr Try.func199 (by kernel_rfl) rfl, fun W a b r hW h => ?_⟩
  show Calls Try.prog 199 #[.agg #[.int .i64 a, .int .i64 b], .pointer (some ⟨g, 0, none⟩)] W _
  have h : (fvJ_.f x a b).map (!·) = some r := h
  obtain ⟨r0, h0, rfl⟩ := Option.map_eq_some_iff.mp h
  clear h
  have HP := Aside0.mk hp
  have HH := Aside0.mk h0
  have HX := Aside0.mk (blk_below hx hW)
  have HW := Aside0.mk hW
  clear hp h0 hx hW
  have HB := Aside0.mk (Below.refl W.heap.size W)
  have hu := Try.underlying27
  have hfz := blk_frozen HX.out 0
  go_enter Try.func199, Try.ntmps199
  go_wp2_with (first | ((with_reducible refine gate_dst (N := 2) rfl ?_); refine box_event ?hg (N := 2) ?hd (cs := #[.int .i64 a, .int .i64 b]) (t := 27) ?hr ?_; (case hd => rfl); (case hg => rfl); (case hr => first | (go_simp; done) | (go_simp; rfl)); intro g2 hg w1 hbox hb; clear hg; have n0_ := Aside0.mk (blk_below HX.out hb); have n1_ := Aside0.mk (below_step HB.out hb); clear HX HB hb; have HX := n0_; have HB := n1_; clear n0_ n1_; have HX2 := Aside0.mk hbox; obtain ⟨hcz0, hcz1, hfz0, hfz1⟩ := blk2 hbox; clear hbox; have hcg : w1.cell? ⟨g, 0, none⟩ = some (FvJ.v x) := (blk_cell HX.out 0).trans rfl; have hfg := blk_frozen HX.out 0) | ((with_reducible refine gate_dst (N := 6) rfl ?_); refine goesV_ (some 6) rfl rfl HP.out.eg #[.agg #[.int .i64 a, .int .i64 b]] rfl (by first | rfl | (go_simp; rfl)) argS ?_; (with_reducible refine (HP.out.go _ a b r0 (below_then HW.out HW.out.size belS) HH.out).mono ?_); rintro e w3 ⟨rfl, hb⟩; refine ⟨_, rfl, ?_⟩; have n1_ := Aside0.mk (below_step belS hb); clear HB hb; have HB := n1_; clear n1_))
  go_ret
  exact ⟨rfl, HB.out⟩

def impl_Board_jumps.f (k : Nat) (a0_0 : Int) (a0_1 : Int) (a0_2 : Int) (l0_3 : List S27) (a1 : FvJ) : Option (List S27) := (cloneJumps.f l0_3).bind fun y => impl_Jump_198.f k y (negV a1)

set_option maxHeartbeats 4000000 in
theorem impl_Board_jumps.calls (k : Nat) (a0_0 : Int) (a0_1 : Int) (a0_2 : Int) (A0_3 : Option Addr) (c0_3 : Nat) (l0_3 : List S27) (a1 : FvJ) (r : List S27) (w : World) (hr0_3 : Kd.C k27 w A0_3 l0_3.length l0_3) (hc0_3 : l0_3.length ≤ c0_3) (h : impl_Board_jumps.f k a0_0 a0_1 a0_2 l0_3 a1 = some r) (hp : FvJ.Ok a1 w) :
    Calls Try.prog 140 #[.agg #[.int .i64 a0_0, .int .i64 a0_1, .int .i64 a0_2, .slice A0_3 l0_3.length c0_3], FvJ.v a1] w fun e w' => ∃ v0_ : Value, e = .returned (v0_) ∧ Kd.R k27 27 w' w.heap.size (fun _ => True) v0_ r ∧ Below w.heap.size w w' := by
  obtain ⟨y, hy, h2⟩ := Option.bind_eq_some_iff.mp h
  clear h
  have HP := Aside0.mk hp
  have HY := Aside0.mk hy
  have HD := Aside0.mk h2
  have HR := Aside0.mk hr0_3
  have HC := Aside0.mk hc0_3
  clear hp hy h2 hr0_3 hc0_3
  have HB := Aside0.mk (Below.refl w.heap.size w)
  have hu := Try.underlying32
  go_enter Try.func140, Try.ntmps140
  go_wp2_with (first | ((with_reducible refine gate_dst (N := 2) rfl ?_); refine box_event ?hg (N := 2) ?hd (cs := #[.int .i64 a0_0, .int .i64 a0_1, .int .i64 a0_2, .slice A0_3 l0_3.length c0_3]) (t := 32) ?hr ?_; (case hd => rfl); (case hg => rfl); (case hr => first | (go_simp; done) | (go_simp; rfl)); intro g2 hg w1 hbox hb; clear hg; have n1_ := Aside0.mk (below_step HB.out hb); clear HB hb; have HB := n1_; clear n1_; have HX2 := Aside0.mk hbox; clear hbox) | ((with_reducible refine gate_dst (N := 3) rfl ?_); refine box_event ?hg (N := 3) ?hd (cs := #[FvJ.v a1]) (t := 107) ?hr ?_; (case hd => rfl); (case hg => rfl); (case hr => first | (go_simp; done) | (go_simp; rfl)); intro g3 hg w2 hbox hb; clear hg; have n0_ := Aside0.mk (blk_below HX2.out hb); have n1_ := Aside0.mk (below_step HB.out hb); clear HX2 HB hb; have HX2 := n0_; have HB := n1_; clear n0_ n1_; have HX3 := Aside0.mk hbox; clear hbox; obtain ⟨hcz0, hcz1, hcz2, hcz3, hfz0, hfz1, hfz2, hfz3⟩ := blk4 HX2.out) | ((with_reducible refine gate_callee (f := 149) rfl ?_); refine goesL_ (some 7) rfl rfl Try.func149 (by kernel_rfl) rfl #[.slice A0_3 l0_3.length c0_3] rfl argS ?_; (with_reducible refine (cloneJumps.calls A0_3 c0_3 l0_3 y _ ?side1 ?side2 HY.out).mono ?_); (case side1 => exact Kd.C_up (Kd.C_below HR.out HB.out)); (case side2 => exact HC.out); rintro e w3 ⟨v3, rfl, ho, hb⟩; refine ⟨_, rfl, ?_⟩; have HO := Aside0.mk ho; have HB3 := Aside0.mk hb; clear ho hb) | ((with_reducible refine gate_callee (f := 198) rfl ?_); refine goesL_ (some 9) rfl rfl Try.func198 (by kernel_rfl) rfl #[v3, FvJ.v (negAt a1 g3)] rfl argS ?_; (with_reducible refine (impl_Jump_198.calls k (fun _ => True) v3 y (negAt a1 g3) r w2 _ HB3.out HO.out ?side1 ?side2).mono ?_); (case side1 => rw [deleteF_p (x := negAt a1 g3) (y := negV a1) rfl]; exact HD.out); (case side2 => exact negAt_ok (HP.out.up HB.out) HX3.out); rintro e w4 ⟨v4, rfl, ho, hb, hk⟩; refine ⟨_, rfl, ?_⟩; have HO4 := Aside0.mk ho; have HB4 := Aside0.mk hb; clear ho hb hk))
  go_ret
  exact ⟨_, rfl, Kd.R_mono (Kd.R_lower HO4.out HB.out.size) (fun _ _ => trivial), below_then HB.out HB.out.size HB4.out⟩

end Go.Proofs.Ytkobjjadojpjfaa.Pr
