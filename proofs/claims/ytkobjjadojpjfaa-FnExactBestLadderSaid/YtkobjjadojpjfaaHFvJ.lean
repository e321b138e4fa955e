/- Proved here: how a function value over a jump is called, given its own contract; and what 'clear' of the rest of an own row of jumps leaves; no other condition. -/
import Derived.Test.YtkobjjadojpjfaaHFv
import Derived.Lib.SliceRun
namespace Go.Proofs.Ytkobjjadojpjfaa.Pr
open Go.RowKit Go.Proofs.YtkobjjadojpjfaaW.PrintWords Go.Proofs.YtkobjjadojpjfaaW.PrintLast Go.Proofs.YtkobjjadojpjfaaW.PrintMore
set_option linter.unusedVariables false
set_option linter.unusedSimpArgs false

/-- a function value over a jump: its function, what it holds, what it answers -/
structure FvJ where
  g : Nat
  lb : Array Value
  p : Int → Int → Option Bool

def FvJ.v (x : FvJ) : Value := .func (.func x.g) #[] x.lb

def fvJ_.f (x : FvJ) (a b : Int) : Option Bool := x.p a b

structure FvJ.Ok (x : FvJ) (w : World) : Prop where
  eg : ∀ args w, (callFunc x.g args).run Try.prog w = .ok (.enter x.g args) w
  go : ∀ (W : World) (a b : Int) (r : Bool), Below w.heap.size w W → fvJ_.f x a b = some r → Calls Try.prog x.g (#[.agg #[.int .i64 a, .int .i64 b]] ++ x.lb) W fun e w' => e = .returned (.bool r) ∧ Below W.heap.size W w'

theorem FvJ.Ok.up {x : FvJ} {w W : World} (h : FvJ.Ok x w) (hb : Below w.heap.size w W) : FvJ.Ok x W :=
  ⟨h.eg, fun V a b r hv => h.go V a b r (below_then hb hb.size hv)⟩

theorem setCells_two (w : World) (g o : Nat) (a b : Value) (l : List Value) : w.setCells g o (a :: b :: l) = (w.setCells g o [a, b]).setCells g (o + 2) l := rfl

theorem pw_grown_below {B : Nat} {w w1 w2 : World} {row : Option Nat} (h : Below B w w1) (hg : w1.grownBy w2 row) (hr : ∀ k, row = some k → B ≤ k) (hB : B ≤ w1.heap.size := by first | exact (Aside0.out (by assumption)) | omega) : Below B w w2 := h.grown hg hB hr

theorem grown_tr {w w1 w2 : World} {row : Option Nat} (h : w.grownBy w1 row) (k : w1.grownBy w2 row) : w.grownBy w2 row :=
  ⟨k.os.trans h.os, k.tape.trans h.tape, k.output.trans h.output, Nat.le_trans h.size k.size, fun i hi hn => (k.block i (Nat.lt_of_lt_of_le hi h.size) hn).trans (h.block i hi hn)⟩

/-- the cells from the i-th element on become zeros -/
theorem clr_row {base g cap : Nat} {ok : Nat → Prop} : ∀ (m i : Nat) (W : World) (xs : List S27), i + m = xs.length → Kd.R k27 27 W base ok (.slice (some ⟨g, 0, none⟩) xs.length cap) xs →
    ∃ ys : List S27, ys.length = xs.length ∧ ys.take i = xs.take i ∧ Kd.R k27 27 (W.setCells g (i * 2) (List.replicate (2 * m) (.int .i64 0))) base ok (.slice (some ⟨g, 0, none⟩) xs.length cap) ys ∧ W.grownBy (W.setCells g (i * 2) (List.replicate (2 * m) (.int .i64 0))) (some g)
  | 0, i, W, xs, h, hR => ⟨xs, rfl, rfl, hR, World.grownBy.refl _ _⟩
  | m + 1, i, W, xs, h, hR => by
    have hi : ((i : Nat) : Int) < ((xs.length : Nat) : Int) := by omega
    obtain ⟨c, hcl, hM, hcc, hfr⟩ := Kd.R_elem hR z27 (i : Int) (by omega) hi
    obtain rfl := k27_openM hM
    have HP := Kd.R_seg hR (i : Int) (by omega) hi (seg := [.int .i64 0, .int .i64 0]) (j := 0) hcl hcc (show 2 ≤ 2 from by decide) (x' := (⟨0, 0⟩ : S27)) (k27_mkM _ _ _ (⟨0, 0⟩ : S27)) (fun _ hk => hk)
    rw [Int.toNat_natCast] at HP
    have hl : (xs.set i (⟨0, 0⟩ : S27)).length = xs.length := List.length_set
    have H2 : Kd.R k27 27 (W.setCells g (i * 2) [.int .i64 0, .int .i64 0]) base ok (.slice (some ⟨g, 0, none⟩) (xs.set i (⟨0, 0⟩ : S27)).length cap) (xs.set i ⟨0, 0⟩) := by rw [hl]; exact HP.1
    obtain ⟨ys, h1, h2, h3, h4⟩ := clr_row m (i + 1) _ _ (by rw [hl]; omega) H2
    have e : List.replicate (2 * (m + 1)) (Value.int .i64 0) = .int .i64 0 :: .int .i64 0 :: List.replicate (2 * m) (.int .i64 0) := by
      rw [show 2 * (m + 1) = 2 * m + 1 + 1 from by omega, List.replicate_succ, List.replicate_succ]
    rw [e, setCells_two]
    rw [show (i + 1) * 2 = i * 2 + 2 from by omega] at h3 h4
    rw [hl] at h3
    refine ⟨ys, h1.trans hl, ?_, h3, grown_tr HP.2 h4⟩
    have h5 := congrArg (List.take i) h2
    rw [List.take_take, List.take_take, Nat.min_eq_left (by omega)] at h5
    rw [h5, List.take_set_of_le (by omega)]

theorem zero_row (m : Nat) : (Builtin.zeroCells #[(.int .i64 0 : Value), .int .i64 0] m).toList = List.replicate (2 * m) (.int .i64 0) := by
  apply List.ext_getElem
  · simp [Builtin.zeroCells]; omega
  · intro i h1 h2
    simp only [Builtin.zeroCells, Array.toList_map, List.getElem_map, List.getElem_replicate]
    have h3 : ∀ j, j < 2 → (#[(.int .i64 0 : Value), .int .i64 0])[j]! = .int .i64 0 := by
      intro j hj
      match j, hj with
      | 0, _ => rfl
      | 1, _ => rfl
    exact h3 _ (Nat.mod_lt _ (by decide))

theorem run_clear_jumps (W : World) (ty : TypeId) (g i m c : Nat) (hm : 0 < m) (hc : ∀ j, j < 2 * m → (W.cell? ⟨g, i * 2 + j, none⟩).isSome = true) (hf : ∀ j, j < 2 * m → W.frozen? ⟨g, i * 2 + j, none⟩ = false) :
    (Builtin.clear_ #[30] ty #[.slice (some ⟨g, i * 2, none⟩) m c]).run Try.prog W = .ok (.tuple #[]) (W.setCells g (i * 2) (List.replicate (2 * m) (.int .i64 0))) := by
  have hv : ∀ w, (zeroValue 27).run Try.prog w = .ok (.agg #[.int .i64 0, .int .i64 0]) w := fun w => by kernel_rfl
  have hst := run_storeCells_cells (P := Try.prog) g (i * 2) (List.replicate (2 * m) (.int .i64 0)) 0 W (by simpa using hc) (by simpa using hf) (by intro v hv'; rw [List.eq_of_mem_replicate hv']; rfl)
  simp only [Nat.add_zero] at hst
  have hz : (Value.agg #[.int .i64 0, .int .i64 0]).cells = #[(.int .i64 0 : Value), .int .i64 0] := by simp [Value.cells]
  obtain ⟨m, rfl⟩ : ∃ n, m = n + 1 := ⟨m - 1, by omega⟩
  simp [Builtin.clear_, run_underlying Try.underlying30, hv, hz, zero_row, hst]

theorem clear_event {ops : Array Oper} {o : Oper} {rest : List Oper} {a : Act} {Q : Exit → Act → World → Prop} {W : World} {base : Nat} {ok : Nat → Prop} (hgd : o.guard = none) (hd : o.dst = none) {x : Tmp}
    (ho : o.op = .call { callee := .builtin .clear, args := #[.tmp x], argTypes := #[30] }) {A A' : Option Addr} {n c n' c' i : Nat} {xs : List S27} (hR : Kd.R k27 27 W base ok (.slice A n c) xs) (hi : i ≤ xs.length)
    (hv : a.eval (.tmp x) = .slice A' n' c') (hA : A' = if c = i then A else A.map (·.add (i * 2))) (hn : n' = xs.length - i)
    (h : ∀ (ys : List S27) (w1 : World), ys.length = xs.length → ys.take i = xs.take i → Kd.R k27 27 w1 base ok (.slice A n c) ys → W.grownBy w1 (Value.slice A n c).ownBlock → wpList Try.prog ops Q rest a w1) : wpList Try.prog ops Q (o :: rest) a W := by
  have key : ∃ (ys : List S27) (w1 : World), (∀ ty, (Builtin.clear_ #[30] ty #[.slice A' n' c']).run Try.prog W = .ok (.tuple #[]) w1) ∧ ys.length = xs.length ∧ ys.take i = xs.take i ∧ Kd.R k27 27 w1 base ok (.slice A n c) ys ∧ W.grownBy w1 (Value.slice A n c).ownBlock := by
    by_cases hm : i = xs.length
    · refine ⟨xs, W, fun ty => ?_, rfl, rfl, hR, World.grownBy.refl _ _⟩
      have h0 : n' = 0 := by omega
      subst h0
      simp [Builtin.clear_, run_underlying Try.underlying30]
      cases A' <;> rfl
    · obtain ⟨g, cap, hv2, hb, hl, cells, hcells⟩ := Kd.R_form hR (by omega)
      injection hv2 with e1 e2 e3
      subst e1; subst e2; subst e3
      have hnc : xs.length ≤ c := (Kd.R_reads' hR).2.1
      obtain ⟨ys, h1, h2, h3, h4⟩ := clr_row (xs.length - i) i W xs (by omega) hR
      rw [if_neg (by omega)] at hA
      have hA : A' = some ⟨g, i * 2, none⟩ := by rw [hA]; simp [add_plain]
      subst hA
      have hcl : ∀ j, j < 2 * (xs.length - i) → (W.cell? ⟨g, i * 2 + j, none⟩).isSome = true ∧ W.frozen? ⟨g, i * 2 + j, none⟩ = false := by
        intro j hj
        obtain ⟨e, he1, he2, he3, he4⟩ := Kd.R_elem hR z27 ((i + j / 2 : Nat) : Int) (by omega) (by omega)
        rw [Int.toNat_natCast] at he3 he4
        have hlen : j % 2 < e.length := by rw [he1]; exact Nat.mod_lt _ (by decide)
        have h5 := he3 (j % 2) _ (List.getElem?_eq_getElem hlen)
        have h6 := he4 (j % 2)
        have h7 : (i + j / 2) * (k27).sz + j % 2 = i * 2 + j := by
          show (i + j / 2) * 2 + j % 2 = i * 2 + j
          omega
        rw [h7] at h5 h6
        exact ⟨by rw [h5]; rfl, h6⟩
      refine ⟨ys, _, fun ty => ?_, h1, h2, h3, h4⟩
      subst hn
      exact run_clear_jumps W ty g i (xs.length - i) c' (by omega) (fun j hj => (hcl j hj).1) (fun j hj => (hcl j hj).2)
  obtain ⟨ys, w1, hrun, h1, h2, h3, h4⟩ := key
  refine wpList_plain hgd fun K hK => ?_
  unfold Oper.wp
  simp [execOp, ho, resolve, invoke, builtin, hv, hrun, Result.andThen]
  show K (a.put o.dst _) w1
  rw [hd]
  exact hK _ _ (h ys w1 h1 h2 h3 h4)

end Go.Proofs.Ytkobjjadojpjfaa.Pr
