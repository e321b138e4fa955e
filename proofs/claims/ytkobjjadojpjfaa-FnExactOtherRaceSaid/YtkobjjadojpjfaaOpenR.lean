/- Proved here: how a race that came in is read; no condition beyond the reading itself. -/
import Derived.Test.YtkobjjadojpjfaaOpen
namespace Go.Proofs.Ytkobjjadojpjfaa.Pr
open Go.RowKit Go.Proofs.YtkobjjadojpjfaaW.PrintWords Go.Proofs.YtkobjjadojpjfaaW.PrintLast Go.Proofs.YtkobjjadojpjfaaW.PrintMore
open Go.ChangeShapes Go.WideShapes Go.ChangeAt Go.Joins Go.Deep
set_option linter.unusedVariables false
set_option linter.unusedSimpArgs false

section
variable {H : Type} {enc : TypeId × Value → H} {w : World} {base : Nat} {spare : Nat → Bool} {held : Bool}

theorem cellsRace : Try.prog.cellsOf 43 = 7 := by kernel_rfl
theorem cellsBoard : Try.prog.cellsOf 24 = 4 := by kernel_rfl
theorem cellsInt : Try.prog.cellsOf 3 = 1 := by kernel_rfl
theorem cellsJumps : Try.prog.cellsOf 22 = 1 := by kernel_rfl

theorem array7 {α : Type} {cs : Array α} (h : cs.size = 7) : ∃ c0 c1 c2 c3 c4 c5 c6, cs = #[c0, c1, c2, c3, c4, c5, c6] := by
  obtain ⟨l⟩ := cs
  match l, h with
  | [c0, c1, c2, c3, c4, c5, c6], _ => exact ⟨c0, c1, c2, c3, c4, c5, c6, rfl⟩

set_option maxRecDepth 100000 in
/-- a race that came in -/
theorem open_race {r : Reach} {b0 : Nat} {v : Value} {d : DataW H} {p : List MemPlace} (hv : Value.okWide Try.prog w r b0 43 v) (h : DataW.Trod enc Try.prog w base spare held 43 v d p) :
    ∃ (a b c : Int) (A : Option Addr) (cap : Nat) (l : List S82) (x y z : Int), v = .agg #[.int .i64 a, .int .i64 b, .int .i64 c, .slice A l.length cap, .int .i64 x, .int .i64 y, .int .i64 z] ∧
      (Lit.int .i64 a).wf = true ∧ (Lit.int .i64 b).wf = true ∧ (Lit.int .i64 c).wf = true ∧ Kd.C k82 w A l.length l ∧ l.length ≤ cap ∧ l.length ≤ 9223372036854775807 ∧ wfJ l ∧ (Lit.int .i64 x).wf = true ∧ (Lit.int .i64 y).wf = true ∧ (Lit.int .i64 z).wf = true := by
  obtain ⟨cs, rfl, hsz⟩ := okWide_struct Try.underlying43 hv
  obtain ⟨c0, c1, c2, c3, c4, c5, c6, rfl⟩ := array7 (hsz.trans cellsRace)
  obtain ⟨fuel, hf⟩ := h
  obtain ⟨y0, y1, y2, y3, n, _, _, h0, h1, h2, h3⟩ := trod_struct4 Try.underlying43 hf
  change DataW.trod enc Try.prog w base spare held n 24 (([c0, c1, c2, c3, c4, c5, c6].drop 0).take (Try.prog.cellsOf 24)) = some y0 at h0
  change DataW.trod enc Try.prog w base spare held n 3 (([c0, c1, c2, c3, c4, c5, c6].drop 4).take (Try.prog.cellsOf 3)) = some y1 at h1
  change DataW.trod enc Try.prog w base spare held n 3 (([c0, c1, c2, c3, c4, c5, c6].drop 5).take (Try.prog.cellsOf 3)) = some y2 at h2
  change DataW.trod enc Try.prog w base spare held n 3 (([c0, c1, c2, c3, c4, c5, c6].drop 6).take (Try.prog.cellsOf 3)) = some y3 at h3
  rw [cellsBoard] at h0
  rw [cellsInt] at h1 h2 h3
  obtain ⟨z0, z1, z2, z3, m, _, _, g0, g1, g2, g3⟩ := trod_struct4 Try.underlying24 h0
  change DataW.trod enc Try.prog w base spare held m 3 ((([c0, c1, c2, c3, c4, c5, c6].drop 0).take 4).drop 0 |>.take (Try.prog.cellsOf 3)) = some z0 at g0
  change DataW.trod enc Try.prog w base spare held m 3 ((([c0, c1, c2, c3, c4, c5, c6].drop 0).take 4).drop 1 |>.take (Try.prog.cellsOf 3)) = some z1 at g1
  change DataW.trod enc Try.prog w base spare held m 3 ((([c0, c1, c2, c3, c4, c5, c6].drop 0).take 4).drop 2 |>.take (Try.prog.cellsOf 3)) = some z2 at g2
  change DataW.trod enc Try.prog w base spare held m 22 ((([c0, c1, c2, c3, c4, c5, c6].drop 0).take 4).drop 3 |>.take (Try.prog.cellsOf 22)) = some z3 at g3
  rw [cellsInt] at g0 g1 g2
  rw [cellsJumps] at g3
  obtain ⟨n0, e0, _, w0⟩ := DataW.trod_int Try.underlying3 g0
  obtain ⟨n1, e1, _, w1⟩ := DataW.trod_int Try.underlying3 g1
  obtain ⟨n2, e2, _, w2⟩ := DataW.trod_int Try.underlying3 g2
  obtain ⟨n4, e4, _, w4⟩ := DataW.trod_int Try.underlying3 h1
  obtain ⟨n5, e5, _, w5⟩ := DataW.trod_int Try.underlying3 h2
  obtain ⟨n6, e6, _, w6⟩ := DataW.trod_int Try.underlying3 h3
  obtain rfl := List.head_eq_of_cons_eq e0
  obtain rfl := List.head_eq_of_cons_eq e1
  obtain rfl := List.head_eq_of_cons_eq e2
  obtain rfl := List.head_eq_of_cons_eq e4
  obtain rfl := List.head_eq_of_cons_eq e5
  obtain rfl := List.head_eq_of_cons_eq e6
  obtain ⟨A, cap, l, rfl, hC, hc, hm, hw⟩ := open_jumps g3
  exact ⟨n0, n1, n2, A, cap, l, n4, n5, n6, rfl, w0, w1, w2, hC, hc, hm, hw, w4, w5, w6⟩

end

end Go.Proofs.Ytkobjjadojpjfaa.Pr
