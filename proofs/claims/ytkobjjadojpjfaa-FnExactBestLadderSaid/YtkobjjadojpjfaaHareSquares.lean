/- Proved here: what impl.areSquares answers; the conditions are the reading facts of its slices. -/
import Derived.Test.YtkobjjadojpjfaaHFunc
import Derived.Test.YtkobjjadojpjfaaFImplIsBoard
import Derived.Test.YtkobjjadojpjfaaFGB
namespace Go.Proofs.Ytkobjjadojpjfaa.Pr
open Go.RowKit Go.Proofs.YtkobjjadojpjfaaW.PrintWords Go.Proofs.YtkobjjadojpjfaaW.PrintLast Go.Proofs.YtkobjjadojpjfaaW.PrintMore
set_option linter.unusedVariables false
set_option linter.unusedSimpArgs false

def impl_areSquares.f (k : Nat) (a0_0 : Int) (a0_1 : Int) (a0_2 : Int) (l0_3 : List (S27)) (l1 : List Int) : Option (Bool) :=
  (impl_IsBoard.f k a0_0 a0_1 a0_2 l0_3).bind fun t => if t = true then ((anyF (fun n => (impl_Board_isSquare.f k a0_0 a0_1 a0_2 l0_3 n).bind fun s => some (!s)) l1).bind fun q => some (!q)) else some false

set_option maxHeartbeats 2000000 in
theorem areSquares_pred (k : Nat) (a0_0 : Int) (a0_1 : Int) (a0_2 : Int) (A0_3 : Option Addr) (c0_3 : Nat) (l0_3 : List (S27)) (gb : Nat) (w : World)
    (hbox : w.heap[gb]? = some (.cells #[.int .i64 a0_0, .int .i64 a0_1, .int .i64 a0_2, .slice A0_3 l0_3.length c0_3] 32 (0, 0)))
    (hr0_3 : Kd.C k27 w A0_3 l0_3.length l0_3) (hc0_3 : l0_3.length ≤ c0_3) :
    PredI 196 #[.pointer (some ⟨gb, 0, none⟩)] w (fun n => (impl_Board_isSquare.f k a0_0 a0_1 a0_2 l0_3 n).bind fun s => some (!s)) := by
  intro W x r hW hx
  obtain ⟨s, hs, hx⟩ := Option.bind_eq_some_iff.mp hx
  obtain rfl := Option.some.inj hx
  have hbox' := (hW.block gb (blk_lt hbox)).trans hbox
  have hcz0 : W.cell? ⟨gb, 0, none⟩ = some (.int .i64 a0_0) := (blk_cell hbox' 0).trans rfl
  have hcz1 : W.cell? ⟨gb, 1, none⟩ = some (.int .i64 a0_1) := (blk_cell hbox' 1).trans rfl
  have hcz2 : W.cell? ⟨gb, 2, none⟩ = some (.int .i64 a0_2) := (blk_cell hbox' 2).trans rfl
  have hcz3 : W.cell? ⟨gb, 3, none⟩ = some (.slice A0_3 l0_3.length c0_3) := (blk_cell hbox' 3).trans rfl
  have hcall := impl_Board_isSquare.calls k a0_0 a0_1 a0_2 A0_3 c0_3 l0_3 x s W (Kd.C_below hr0_3 hW) hc0_3 hs
  have HC := Aside0.mk hcall
  clear hcall hbox' hbox hs hx hr0_3
  have hu := Try.underlying32
  go_enter Try.func196, Try.ntmps196
  go_wp2_with fail
  refine HC.out.mono ?_
  rintro e w' ⟨rfl, hb'⟩
  go_wp2_with fail
  go_ret
  exact ⟨rfl, hb'⟩

set_option maxHeartbeats 2000000 in
set_option maxRecDepth 100000 in
theorem impl_areSquares.calls (k : Nat) (a0_0 : Int) (a0_1 : Int) (a0_2 : Int) (A0_3 : Option Addr) (c0_3 : Nat) (l0_3 : List (S27)) (A1 : Option Addr) (c1 : Nat) (l1 : List Int) (r : Bool) (w : World)
    (hr0_3 : Kd.C k27 w A0_3 l0_3.length l0_3) (hc0_3 : l0_3.length ≤ c0_3) (hr1 : Kd.C (Kd.int .i64) w A1 l1.length l1) (hc1 : l1.length ≤ c1) (h : impl_areSquares.f k a0_0 a0_1 a0_2 l0_3 l1 = some r) :
    Calls Try.prog 134 #[.agg #[.int .i64 a0_0, .int .i64 a0_1, .int .i64 a0_2, .slice A0_3 l0_3.length c0_3], .slice A1 l1.length c1] w fun e w' => e = .returned (.bool r) ∧ Below w.heap.size w w' := by
  have hu := Try.underlying32
  have HR0 := Aside0.mk hr0_3
  have HR1 := Aside0.mk hr1
  have eg := enters_fn Try.func196 (by kernel_rfl) rfl
  clear hr0_3 hr1
  unfold impl_areSquares.f at h
  obtain ⟨t, ht, h⟩ := Option.bind_eq_some_iff.mp h
  have HT := Aside0.mk ht
  clear ht
  go_enter Try.func134, Try.ntmps134
  cases t with
  | false =>
    obtain rfl := Option.some.inj h
    go_wp2_with (first | ((with_reducible refine gate_dst (N := 2) rfl ?_); refine box_event ?hg (N := 2) ?hd (cs := #[.int .i64 a0_0, .int .i64 a0_1, .int .i64 a0_2, .slice A0_3 l0_3.length c0_3]) (t := 32) ?hr ?_; (case hd => rfl); (case hg => rfl); (case hr => first | (go_simp; done) | (go_simp; rfl)); intro gb hg w1 hbox hb; have HG := Aside0.mk hg; clear hg; have HX := Aside0.mk hbox; have HB := Aside0.mk hb; clear hb hbox; have hcz0 : w1.cell? ⟨gb, 0, none⟩ = some (.int .i64 a0_0) := (blk_cell HX.out 0).trans rfl; have hcz1 : w1.cell? ⟨gb, 1, none⟩ = some (.int .i64 a0_1) := (blk_cell HX.out 1).trans rfl; have hcz2 : w1.cell? ⟨gb, 2, none⟩ = some (.int .i64 a0_2) := (blk_cell HX.out 2).trans rfl; have hcz3 : w1.cell? ⟨gb, 3, none⟩ = some (.slice A0_3 l0_3.length c0_3) := (blk_cell HX.out 3).trans rfl))
    refine (impl_IsBoard.calls k a0_0 a0_1 a0_2 A0_3 c0_3 l0_3 false _ (Kd.C_below HR0.out HB.out) hc0_3 HT.out).mono ?_
    rintro e w' ⟨rfl, hb'⟩
    go_wp2_with fail
    go_ret
    exact ⟨rfl, HB.out.trans (hb'.mono HB.out.size)⟩
  | true =>
    rw [if_pos rfl] at h
    obtain ⟨q, hq, h⟩ := Option.bind_eq_some_iff.mp h
    obtain rfl := Option.some.inj h
    have HQ := Aside0.mk hq
    clear hq h
    go_wp2_with (first | ((with_reducible refine gate_dst (N := 2) rfl ?_); refine box_event ?hg (N := 2) ?hd (cs := #[.int .i64 a0_0, .int .i64 a0_1, .int .i64 a0_2, .slice A0_3 l0_3.length c0_3]) (t := 32) ?hr ?_; (case hd => rfl); (case hg => rfl); (case hr => first | (go_simp; done) | (go_simp; rfl)); intro gb hg w1 hbox hb; have HG := Aside0.mk hg; clear hg; have HX := Aside0.mk hbox; have HB := Aside0.mk hb; clear hb hbox; have hcz0 : w1.cell? ⟨gb, 0, none⟩ = some (.int .i64 a0_0) := (blk_cell HX.out 0).trans rfl; have hcz1 : w1.cell? ⟨gb, 1, none⟩ = some (.int .i64 a0_1) := (blk_cell HX.out 1).trans rfl; have hcz2 : w1.cell? ⟨gb, 2, none⟩ = some (.int .i64 a0_2) := (blk_cell HX.out 2).trans rfl; have hcz3 : w1.cell? ⟨gb, 3, none⟩ = some (.slice A0_3 l0_3.length c0_3) := (blk_cell HX.out 3).trans rfl))
    refine (impl_IsBoard.calls k a0_0 a0_1 a0_2 A0_3 c0_3 l0_3 true _ (Kd.C_below HR0.out HB.out) hc0_3 HT.out).mono ?_
    rintro e w2 ⟨rfl, hb2⟩
    have HB2 := Aside0.mk (HB.out.trans (hb2.mono HB.out.size))
    have HX2 := Aside0.mk ((hb2.block gb (blk_lt HX.out)).trans HX.out)
    clear hb2 hcz0 hcz1 hcz2 hcz3
    go_wp2_with fail
    refine (containsFunc_int A1 c1 l1 _ _ _ q _ eg (areSquares_pred k a0_0 a0_1 a0_2 A0_3 c0_3 l0_3 gb _ HX2.out (Kd.C_below HR0.out HB2.out) hc0_3) (Kd.C_below HR1.out HB2.out) hc1 HQ.out).mono ?_
    rintro e w3 ⟨rfl, hb3⟩
    go_wp2_with fail
    go_ret
    exact ⟨rfl, HB2.out.trans (hb3.mono HB2.out.size)⟩

end Go.Proofs.Ytkobjjadojpjfaa.Pr
