/- Proved here: how a call of a function value over two jumps steps, and what the comparison of two jumps by their beginnings answers; no condition beyond the function value's own contract. -/
import Derived.Test.YtkobjjadojpjfaaHFv
import Derived.Test.YtkobjjadojpjfaaFCmpCompareInt
import Derived.Laws.IdiomCopy
namespace Go.Proofs.Ytkobjjadojpjfaa.Pr
open Go.RowKit Go.Proofs.YtkobjjadojpjfaaW.PrintWords Go.Proofs.YtkobjjadojpjfaaW.PrintLast Go.Proofs.YtkobjjadojpjfaaW.PrintMore
set_option linter.unusedVariables false
set_option linter.unusedSimpArgs false

/-- a function value over two jumps: its function, what it holds, what it answers -/
structure FvC where
  g : Nat
  lb : Array Value
  p : Int → Int → Int → Int → Option Int

def FvC.v (x : FvC) : Value := .func (.func x.g) #[] x.lb

def fvC_.f (x : FvC) (a0 a1 b0 b1 : Int) : Option Int := x.p a0 a1 b0 b1

/-- in every world the function value answers so; it may make memory -/
structure FvC.Ok (x : FvC) : Prop where
  eg : ∀ args w, (callFunc x.g args).run Try.prog w = .ok (.enter x.g args) w
  go : ∀ (W : World) (a0 a1 b0 b1 : Int) (r : Int), fvC_.f x a0 a1 b0 b1 = some r → Calls Try.prog x.g (#[.agg #[.int .i64 a0, .int .i64 a1], .agg #[.int .i64 b0, .int .i64 b1]] ++ x.lb) W fun e w' => e = .returned (.int .i64 r) ∧ Below W.heap.size W w'

/-- a call of a function value in a region that draws its order -/
theorem goesVR_ {P : Program} {ops : Array Oper} {Q : Exit → Act → World → Prop} {oi : Oper} {N : Option Tmp} {a : Act} {w : World} {K : Act → World → Prop} {t : Tmp} {g : FuncId} {lb : Array Value} {xs : Array Operand} {ts : Array TypeId}
    (eg : ∀ args w, (callFunc g args).run P w = .ok (.enter g args) w) (args : Array Value) (hw : Region.wanted oi (yielded ops a.tmps) = true) (hN : oi.dst = N) (hop : oi.op = .call { callee := .value (.tmp t), args := xs, argTypes := ts }) (hargs : xs.map a.eval = args)
    (h : Calls P g (args ++ lb) w fun e w' => ∃ v, e = .returned v ∧ K (a.put N v) w') (hv : a.eval (.tmp t) = .func (.func g) #[] lb := by first | rfl | (go_simp; rfl)) : if Region.wanted oi (yielded ops a.tmps) = true then Oper.wp P oi a w K Q else K (a.put N undef) w := by
  refine call_ g (args ++ lb) hw hN ?_ h
  have he := eg (args ++ lb) w
  unfold execOp
  simp [hop, resolve, Deferred.ofValue, invoke, hv, hargs, he]

theorem set2_c0 {w : World} {g i j : Nat} {a b r : Value} (h : (w.setCells g (i * 2 + 0) [a, b]).cell? ⟨g, j * 2, none⟩ = some r) : (w.setCell ⟨g, i * 2, none⟩ a).cell? ⟨g, j * 2, none⟩ = some r := by
  have h : ((w.setCell ⟨g, i * 2, none⟩ a).setCell ⟨g, i * 2 + 1, none⟩ b).cell? ⟨g, j * 2, none⟩ = some r := h
  rwa [World.cell?_setCell_other (h := fun e => by injection e with _ e _; omega)] at h

theorem cell_of_set {w : World} {p : Addr} {v r : Value} (h : (w.setCell p v).cell? p = some r) : ∃ u, w.cell? p = some u := by
  unfold World.cell? World.setCell at h
  simp only [Array.getElem?_modify, ↓reduceIte] at h
  unfold World.cell?
  cases hb : w.heap[p.block]? with
  | none => rw [hb] at h; simp at h
  | some o =>
    rw [hb] at h
    cases o with
    | cells c e f =>
      simp only [Option.map_some] at h ⊢
      cases hs : p.spot.isSome with
      | true => rw [hs] at h; simp at h
      | false =>
        rw [hs] at h
        simp only [Bool.false_eq_true, ↓reduceIte] at h ⊢
        have : p.off < c.size := by
          have := (Array.getElem?_eq_some_iff.1 h).1
          simpa using this
        exact ⟨_, Array.getElem?_eq_getElem this⟩
    | _ => simp at h

theorem set2_c1 {w : World} {g i j : Nat} {a b r : Value} (h : (w.setCells g (i * 2 + 0) [a, b]).cell? ⟨g, j * 2 + 1, none⟩ = some r) : (w.setCell ⟨g, i * 2 + 1, none⟩ b).cell? ⟨g, j * 2 + 1, none⟩ = some r := by
  have h : ((w.setCell ⟨g, i * 2, none⟩ a).setCell ⟨g, i * 2 + 1, none⟩ b).cell? ⟨g, j * 2 + 1, none⟩ = some r := h
  by_cases e : i = j
  · subst e
    obtain ⟨u, h2⟩ := cell_of_set h
    rw [World.cell?_setCell_same (h := h2)] at h
    rw [World.cell?_setCell_other (h := fun e => by injection e with _ e _; omega)] at h2
    rw [World.cell?_setCell_same (h := h2)]
    exact h
  · rw [World.cell?_setCell_other (h := fun e => by injection e with _ e _; omega), World.cell?_setCell_other (h := fun e => by injection e with _ e _; omega)] at h
    rw [World.cell?_setCell_other (h := fun e => by injection e with _ e _; omega)]
    exact h

theorem set2_d1 {w : World} {g i j : Nat} {a b r : Value} (h : (w.setCells g (i * 2 + 0) [a, b]).cell? ⟨g, j * 2 + 1, none⟩ = some r) : ((w.setCell ⟨g, i * 2, none⟩ a).setCell ⟨g, i * 2 + 1, none⟩ b).cell? ⟨g, j * 2 + 1, none⟩ = some r := h

theorem set2_f {w : World} {g o : Nat} {a b : Value} {p : Addr} (h : (w.setCells g o [a, b]).frozen? p = false) : w.frozen? p = false := by
  rwa [World.frozen?_setCells] at h

def cmpV : FvC := ⟨205, #[], fun a0 _ b0 _ => cmp_Compare_int.f a0 b0⟩

set_option maxHeartbeats 2000000 in
theorem cmpV_ok : FvC.Ok cmpV := by
  refine ⟨enters_pr Try.func205 (by kernel_rfl) rfl, fun W a0 a1 b0 b1 r h => ?_⟩
  show Calls Try.prog 205 #[.agg #[.int .i64 a0, .int .i64 a1], .agg #[.int .i64 b0, .int .i64 b1]] W _
  have h : cmp_Compare_int.f a0 b0 = some r := h
  have HC := fun W' => Aside0.mk (cmp_Compare_int.calls a0 b0 r W' h)
  clear h
  have hu := Try.underlying27
  go_enter Try.func205, Try.ntmps205
  go_wp2_with (first | ((with_reducible refine gate_dst (N := 2) rfl ?_); refine box_event ?hg (N := 2) ?hd (cs := #[.int .i64 a0, .int .i64 a1]) (t := 27) ?hr ?_; (case hd => rfl); (case hg => rfl); (case hr => first | (go_simp; done) | (go_simp; rfl)); intro g2 hg w1 hbox hb; have HG := Aside0.mk hg; clear hg; have HX := Aside0.mk hbox; have HB := Aside0.mk hb; clear hb hbox) | ((with_reducible refine gate_dst (N := 3) rfl ?_); refine box_event ?hg (N := 3) ?hd (cs := #[.int .i64 b0, .int .i64 b1]) (t := 27) ?hr ?_; (case hd => rfl); (case hg => rfl); (case hr => first | (go_simp; done) | (go_simp; rfl)); intro g3 hg w2 hbox hb; have HG3 := Aside0.mk hg; clear hg; have HX3 := Aside0.mk hbox; have n0_ := Aside0.mk ((hb.block g2 (blk_lt HX.out)).trans HX.out); have n1_ := Aside0.mk (HB.out.trans (hb.mono HB.out.size)); clear HX HB; have HX := n0_; have HB := n1_; clear n0_ n1_ hb hbox; have hcz0 : w2.cell? ⟨g2, 0, none⟩ = some (.int .i64 a0) := (blk_cell HX.out 0).trans rfl; have hcz1 : w2.cell? ⟨g3, 0, none⟩ = some (.int .i64 b0) := (blk_cell HX3.out 0).trans rfl))
  refine (HC _).out.mono ?_
  rintro e w' ⟨rfl, hb'⟩
  go_wp2_with fail
  go_ret
  exact ⟨rfl, HB.out.trans (hb'.below.mono HB.out.size)⟩

end Go.Proofs.Ytkobjjadojpjfaa.Pr
