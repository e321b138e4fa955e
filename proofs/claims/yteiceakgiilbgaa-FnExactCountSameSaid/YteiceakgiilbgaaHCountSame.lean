/- Proved here: what impl.CountSame answers; no condition. -/
import Derived.Test.YteiceakgiilbgaaFImplCounted
import Derived.Test.YteiceakgiilbgaaFImplAreDice
namespace Go.Proofs.Yteiceakgiilbgaa.Pr
open Go.RowKit Go.Proofs.YteiceakgiilbgaaW.PrintWords Go.Proofs.YteiceakgiilbgaaW.PrintLast Go.Proofs.YteiceakgiilbgaaW.PrintMore
set_option linter.unusedVariables false
set_option linter.unusedSimpArgs false

theorem counted_l (v v' : Fv1) (hv : v.p = v'.p) : ∀ k, (∀ x0 x7 x17 x18, impl_counted.l0 k x0 v x7 x17 x18 = impl_counted.l0 k x0 v' x7 x17 x18) ∧ (∀ x0 x8 x17 x18 x23 x24 x25, impl_counted.l1 k x0 v x8 x17 x18 x23 x24 x25 = impl_counted.l1 k x0 v' x8 x17 x18 x23 x24 x25) ∧
    (∀ x0 x8 x9 x10 x11 x17 x18 x23 x24 x25, impl_counted.l2 k x0 v x8 x9 x10 x11 x17 x18 x23 x24 x25 = impl_counted.l2 k x0 v' x8 x9 x10 x11 x17 x18 x23 x24 x25)
  | 0 => ⟨fun _ _ _ _ => rfl, fun _ _ _ _ _ _ _ => rfl, fun _ _ _ _ _ _ _ _ _ _ => rfl⟩
  | k + 1 => by
    obtain ⟨i0, i1, i2⟩ := counted_l v v' hv k
    refine ⟨fun x0 x7 x17 x18 => ?_, fun x0 x8 x17 x18 x23 x24 x25 => ?_, fun x0 x8 x9 x10 x11 x17 x18 x23 x24 x25 => ?_⟩
    · simp only [impl_counted.l0, i1]
    · simp only [impl_counted.l1, i0, i2]
    · simp only [impl_counted.l2, i1, i2, fv1_.f, hv]

theorem counted_p (v v' : Fv1) (hv : v.p = v'.p) (k : Nat) (a0 a1 : Int) : impl_counted.f k a0 a1 v = impl_counted.f k a0 a1 v' := by
  unfold impl_counted.f
  simp only [(counted_l v v' hv k).1]

def mostP (m : Int) (c : Int) : Option Bool := some (decide (c ≤ m))
def mostV (m : Int) : Fv1 := ⟨0, #[], mostP m⟩

set_option maxHeartbeats 2000000 in
theorem most_ok (m : Int) (gb : Nat) (w : World) (hbox : w.heap[gb]? = some (.cells #[.int .i64 m] 3 (0, 0))) : Fv1.Ok ⟨54, #[.pointer (some ⟨gb, 0, none⟩)], mostP m⟩ w := by
  refine ⟨enters_pr Try.func54 (by kernel_rfl) rfl, fun W a r hW h => ?_⟩
  have h : some (decide (a ≤ m)) = some r := h
  obtain rfl := Option.some.inj h
  show Calls Try.prog 54 #[.int .i64 a, .pointer (some ⟨gb, 0, none⟩)] W _
  have hbox' := (hW.block gb (blk_lt hbox)).trans hbox
  have hcz0 : W.cell? ⟨gb, 0, none⟩ = some (.int .i64 m) := (blk_cell hbox' 0).trans rfl
  clear hW h hbox hbox'
  by_cases hab : a ≤ m
  · have hd : decide (a ≤ m) = true := decide_eq_true hab
    rw [hd]
    go_enter Try.func54, Try.ntmps54
    go_wp2
    go_ret
    exact ⟨by first | rfl | (simp [hab]; done) | simp_all, Below.refl _ _⟩
  · have hd : decide (a ≤ m) = false := decide_eq_false hab
    rw [hd]
    go_enter Try.func54, Try.ntmps54
    go_wp2
    go_ret
    exact ⟨by first | rfl | (simp [hab]; done) | simp_all, Below.refl _ _⟩

set_option maxHeartbeats 2000000 in
set_option maxRecDepth 100000 in
theorem atMost_calls (k : Nat) (a0 a1 m r : Int) (g3 g4 : Nat) (W : World) (h3 : W.heap[g3]? = some (.cells #[.int .i64 a0] 3 (0, 0))) (h4 : W.heap[g4]? = some (.cells #[.int .i64 a1] 3 (0, 0))) (h : impl_counted.f k a0 a1 (mostV m) = some r) :
    Calls Try.prog 52 #[.int .i64 m, .pointer (some ⟨g3, 0, none⟩), .pointer (some ⟨g4, 0, none⟩)] W fun e w' => e = .returned (.int .i64 r) ∧ Below W.heap.size W w' := by
  have H := Aside0.mk h
  have H3 := Aside0.mk h3
  have H4 := Aside0.mk h4
  clear h h3 h4
  go_enter Try.func52, Try.ntmps52
  go_wp2_with (first | ((with_reducible refine gate_dst (N := 3) rfl ?_); refine box_event ?hg (N := 3) ?hd (cs := #[.int .i64 m]) (t := 3) ?hr ?_; (case hd => rfl); (case hg => rfl); (case hr => first | (go_simp; done) | (go_simp; rfl)); intro gb hg w1 hbox hb; have HG := Aside0.mk hg; clear hg; have HX := Aside0.mk hbox; have HB := Aside0.mk hb; clear hb hbox; have hcz3 : w1.cell? ⟨g3, 0, none⟩ = some (.int .i64 a0) := (blk_cell ((HB.out.block g3 (blk_lt H3.out)).trans H3.out) 0).trans rfl; have hcz4 : w1.cell? ⟨g4, 0, none⟩ = some (.int .i64 a1) := (blk_cell ((HB.out.block g4 (blk_lt H4.out)).trans H4.out) 0).trans rfl))
  refine (impl_counted.calls k a0 a1 ⟨54, #[.pointer (some ⟨gb, 0, none⟩)], mostP m⟩ r _ (most_ok m gb _ HX.out) ((counted_p ⟨54, #[.pointer (some ⟨gb, 0, none⟩)], mostP m⟩ (mostV m) rfl k a0 a1).trans H.out)).mono ?_
  rintro e w2 ⟨rfl, hb2⟩
  go_wp2_with fail
  go_ret
  exact ⟨rfl, HB.out.trans (hb2.mono HB.out.size)⟩

def impl_CountSame.f (k : Nat) (a0 : Int) (a1 : Int) (a2 : Int) : Option (Int × Bool) :=
  (impl_areDice.f a0 a1).bind fun t => if t = true then ((impl_within.f a2 1 8).bind fun s => if s = true then ((impl_counted.f k a0 a1 (mostV a2)).bind fun p => (impl_counted.f k a0 a1 (mostV (wrap64 (a2 - 1)))).bind fun q => some (wrap64 (p - q), true)) else some (0, false)) else some (0, false)

set_option maxHeartbeats 4000000 in
set_option maxRecDepth 100000 in
theorem impl_CountSame.calls (k : Nat) (a0 : Int) (a1 : Int) (a2 : Int) (r1 : Int) (r2 : Bool) (w : World) (h : impl_CountSame.f k a0 a1 a2 = some (r1, r2)) :
    Calls Try.prog 24 #[.int .i64 a0, .int .i64 a1, .int .i64 a2] w fun e w' => e = .returned (.tuple #[.int .i64 r1, .bool r2]) ∧ Below w.heap.size w w' := by
  unfold impl_CountSame.f at h
  obtain ⟨t, ht, h⟩ := Option.bind_eq_some_iff.mp h
  have HT := fun W => Aside0.mk (impl_areDice.calls a0 a1 t W ht)
  have eg := enters_pr Try.func52 (by kernel_rfl) rfl
  clear ht
  cases t with
  | false =>
    rw [if_neg (by decide)] at h
    simp only [Option.some.injEq, Prod.mk.injEq] at h
    obtain ⟨rfl, rfl⟩ := h
    go_enter Try.func24, Try.ntmps24
    go_wp2_with (first | ((with_reducible refine gate_dst (N := 3) rfl ?_); refine box_event ?hg (N := 3) ?hd (cs := #[.int .i64 a0]) (t := 3) ?hr ?_; (case hd => rfl); (case hg => rfl); (case hr => first | (go_simp; done) | (go_simp; rfl)); intro g3 hg w1 hbox hb; have HG3 := Aside0.mk hg; clear hg; have HX3 := Aside0.mk hbox; have HB := Aside0.mk hb; clear hb hbox) | ((with_reducible refine gate_dst (N := 4) rfl ?_); refine box_event ?hg (N := 4) ?hd (cs := #[.int .i64 a1]) (t := 3) ?hr ?_; (case hd => rfl); (case hg => rfl); (case hr => first | (go_simp; done) | (go_simp; rfl)); intro g4 hg w2 hbox hb; have HG4 := Aside0.mk hg; clear hg; have HX4 := Aside0.mk hbox; have n0_ := Aside0.mk ((hb.block g3 (blk_lt HX3.out)).trans HX3.out); have n1_ := Aside0.mk (HB.out.trans (hb.mono HB.out.size)); clear HX3 HB; have HX3 := n0_; have HB := n1_; clear n0_ n1_ hb hbox; have hcz3 : w2.cell? ⟨g3, 0, none⟩ = some (.int .i64 a0) := (blk_cell HX3.out 0).trans rfl; have hcz4 : w2.cell? ⟨g4, 0, none⟩ = some (.int .i64 a1) := (blk_cell HX4.out 0).trans rfl))
    refine (HT _).out.mono ?_
    rintro e w' ⟨rfl, hb'⟩
    go_wp2_with fail
    go_ret2
    exact ⟨rfl, HB.out.trans (hb'.below.mono HB.out.size)⟩
  | true =>
    rw [if_pos rfl] at h
    obtain ⟨s, hs, h⟩ := Option.bind_eq_some_iff.mp h
    have HS := fun W => Aside0.mk (impl_within.calls a2 1 8 s W hs)
    clear hs
    cases s with
    | false =>
      rw [if_neg (by decide)] at h
      simp only [Option.some.injEq, Prod.mk.injEq] at h
      obtain ⟨rfl, rfl⟩ := h
      go_enter Try.func24, Try.ntmps24
      go_wp2_with (first | ((with_reducible refine gate_dst (N := 3) rfl ?_); refine box_event ?hg (N := 3) ?hd (cs := #[.int .i64 a0]) (t := 3) ?hr ?_; (case hd => rfl); (case hg => rfl); (case hr => first | (go_simp; done) | (go_simp; rfl)); intro g3 hg w1 hbox hb; have HG3 := Aside0.mk hg; clear hg; have HX3 := Aside0.mk hbox; have HB := Aside0.mk hb; clear hb hbox) | ((with_reducible refine gate_dst (N := 4) rfl ?_); refine box_event ?hg (N := 4) ?hd (cs := #[.int .i64 a1]) (t := 3) ?hr ?_; (case hd => rfl); (case hg => rfl); (case hr => first | (go_simp; done) | (go_simp; rfl)); intro g4 hg w2 hbox hb; have HG4 := Aside0.mk hg; clear hg; have HX4 := Aside0.mk hbox; have n0_ := Aside0.mk ((hb.block g3 (blk_lt HX3.out)).trans HX3.out); have n1_ := Aside0.mk (HB.out.trans (hb.mono HB.out.size)); clear HX3 HB; have HX3 := n0_; have HB := n1_; clear n0_ n1_ hb hbox; have hcz3 : w2.cell? ⟨g3, 0, none⟩ = some (.int .i64 a0) := (blk_cell HX3.out 0).trans rfl; have hcz4 : w2.cell? ⟨g4, 0, none⟩ = some (.int .i64 a1) := (blk_cell HX4.out 0).trans rfl))
      refine (HT _).out.mono ?_
      rintro e w' ⟨rfl, hb'⟩
      have HB2 := Aside0.mk (HB.out.trans (hb'.below.mono HB.out.size))
      clear hb'
      go_wp2_with fail
      refine (HS _).out.mono ?_
      rintro e w'' ⟨rfl, hb''⟩
      go_wp2_with fail
      go_ret2
      exact ⟨rfl, HB2.out.trans (hb''.below.mono HB2.out.size)⟩
    | true =>
      rw [if_pos rfl] at h
      obtain ⟨p, hp, h⟩ := Option.bind_eq_some_iff.mp h
      obtain ⟨q, hq, h⟩ := Option.bind_eq_some_iff.mp h
      simp only [Option.some.injEq, Prod.mk.injEq] at h
      obtain ⟨rfl, rfl⟩ := h
      have HP := Aside0.mk hp
      have HQ := Aside0.mk hq
      clear hp hq
      go_enter Try.func24, Try.ntmps24
      go_wp2_with (first | ((with_reducible refine gate_dst (N := 3) rfl ?_); refine box_event ?hg (N := 3) ?hd (cs := #[.int .i64 a0]) (t := 3) ?hr ?_; (case hd => rfl); (case hg => rfl); (case hr => first | (go_simp; done) | (go_simp; rfl)); intro g3 hg w1 hbox hb; have HG3 := Aside0.mk hg; clear hg; have HX3 := Aside0.mk hbox; have HB := Aside0.mk hb; clear hb hbox) | ((with_reducible refine gate_dst (N := 4) rfl ?_); refine box_event ?hg (N := 4) ?hd (cs := #[.int .i64 a1]) (t := 3) ?hr ?_; (case hd => rfl); (case hg => rfl); (case hr => first | (go_simp; done) | (go_simp; rfl)); intro g4 hg w2 hbox hb; have HG4 := Aside0.mk hg; clear hg; have HX4 := Aside0.mk hbox; have n0_ := Aside0.mk ((hb.block g3 (blk_lt HX3.out)).trans HX3.out); have n1_ := Aside0.mk (HB.out.trans (hb.mono HB.out.size)); clear HX3 HB; have HX3 := n0_; have HB := n1_; clear n0_ n1_ hb hbox; have hcz3 : w2.cell? ⟨g3, 0, none⟩ = some (.int .i64 a0) := (blk_cell HX3.out 0).trans rfl; have hcz4 : w2.cell? ⟨g4, 0, none⟩ = some (.int .i64 a1) := (blk_cell HX4.out 0).trans rfl))
      refine (HT _).out.mono ?_
      rintro e w3 ⟨rfl, hb'⟩
      have HB2 := Aside0.mk (HB.out.trans (hb'.below.mono HB.out.size))
      have HX3b := Aside0.mk ((hb'.below.block g3 (blk_lt HX3.out)).trans HX3.out)
      have HX4b := Aside0.mk ((hb'.below.block g4 (blk_lt HX4.out)).trans HX4.out)
      clear hb' HX3 HX4 hcz3 hcz4
      go_wp2_with fail
      refine (HS _).out.mono ?_
      rintro e w4 ⟨rfl, hb'⟩
      have HB3 := Aside0.mk (HB2.out.trans (hb'.below.mono HB2.out.size))
      have HX3 := Aside0.mk ((hb'.below.block g3 (blk_lt HX3b.out)).trans HX3b.out)
      have HX4 := Aside0.mk ((hb'.below.block g4 (blk_lt HX4b.out)).trans HX4b.out)
      clear hb' HX3b HX4b
      go_wp2_with fail
      refine (atMost_calls k a0 a1 a2 p g3 g4 _ HX3.out HX4.out HP.out).mono ?_
      rintro e w5 ⟨rfl, hb'⟩
      have HB4 := Aside0.mk (HB3.out.trans (hb'.mono HB3.out.size))
      have HX3b := Aside0.mk ((hb'.block g3 (blk_lt HX3.out)).trans HX3.out)
      have HX4b := Aside0.mk ((hb'.block g4 (blk_lt HX4.out)).trans HX4.out)
      clear hb' HX3 HX4
      go_wp2_with fail
      refine (atMost_calls k a0 a1 _ q g3 g4 _ HX3b.out HX4b.out HQ.out).mono ?_
      rintro e w6 ⟨rfl, hb'⟩
      go_wp2_with fail
      go_ret2
      exact ⟨rfl, HB4.out.trans (hb'.mono HB4.out.size)⟩

end Go.Proofs.Yteiceakgiilbgaa.Pr
