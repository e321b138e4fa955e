/- Proved here: the function value 'leads to this square', as it lies beside its square's box; no condition beyond the box's fact. -/
import Derived.Test.YtkobjjadojpjfaaHJumps
import Derived.Test.YtkobjjadojpjfaaFImplJump192
namespace Go.Proofs.Ytkobjjadojpjfaa.Pr
open Go.RowKit Go.Proofs.YtkobjjadojpjfaaW.PrintWords Go.Proofs.YtkobjjadojpjfaaW.PrintLast Go.Proofs.YtkobjjadojpjfaaW.PrintMore
set_option linter.unusedVariables false
set_option linter.unusedSimpArgs false

def landV (a1 : Int) : FvJ := ⟨193, #[], fun _ b => some (b == a1)⟩
def landAt (a1 : Int) (g : Nat) : FvJ := ⟨193, #[.pointer (some ⟨g, 0, none⟩)], fun _ b => some (b == a1)⟩

theorem contains_p {x y : FvJ} (h : x.p = y.p) (k : Nat) (l : List S27) : impl_Jump_192.f k l x = impl_Jump_192.f k l y := by
  simp only [impl_Jump_192.f, impl_Jump_213.f, index_p h]

set_option maxHeartbeats 2000000 in
theorem landAt_ok {a1 : Int} {w : World} {g : Nat} (hx : w.heap[g]? = some (.cells #[.int .i64 a1] 3 (0, 0))) : FvJ.Ok (landAt a1 g) w := by
  refine ⟨enters_pr Try.func193 (by kernel_rfl) rfl, fun W a b r hW h => ?_⟩
  show Calls Try.prog 193 #[.agg #[.int .i64 a, .int .i64 b], .pointer (some ⟨g, 0, none⟩)] W _
  have h : some (b == a1) = some r := h
  obtain rfl := Option.some.inj h
  clear h
  have HX := Aside0.mk (blk_below hx hW)
  clear hx hW
  have HB := Aside0.mk (Below.refl W.heap.size W)
  have hu := Try.underlying27
  go_enter Try.func193, Try.ntmps193
  go_wp2_with (first | ((with_reducible refine gate_dst (N := 2) rfl ?_); refine box_event ?hg (N := 2) ?hd (cs := #[.int .i64 a, .int .i64 b]) (t := 27) ?hr ?_; (case hd => rfl); (case hg => rfl); (case hr => first | (go_simp; done) | (go_simp; rfl)); intro g2 hg w1 hbox hb; clear hg; have n0_ := Aside0.mk (blk_below HX.out hb); have n1_ := Aside0.mk (below_step HB.out hb); clear HX HB hb; have HX := n0_; have HB := n1_; clear n0_ n1_; obtain ⟨hcz0, hcz1, hfz0, hfz1⟩ := blk2 hbox; clear hbox; have hcg : w1.cell? ⟨g, 0, none⟩ = some (.int .i64 a1) := (blk_cell HX.out 0).trans rfl; have hfg := blk_frozen HX.out 0))
  go_ret
  exact ⟨rfl, HB.out⟩

end Go.Proofs.Ytkobjjadojpjfaa.Pr
