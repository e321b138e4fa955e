/- Proved here: what impl.HalfDone and impl.AllDone answer; the conditions are the reading facts of the board's slice. -/
import Derived.Test.YtkobjjadojpjfaaFImplFirstDone
namespace Go.Proofs.Ytkobjjadojpjfaa.Pr
open Go.RowKit Go.Proofs.YtkobjjadojpjfaaW.PrintWords Go.Proofs.YtkobjjadojpjfaaW.PrintLast Go.Proofs.YtkobjjadojpjfaaW.PrintMore
set_option linter.unusedVariables false
set_option linter.unusedSimpArgs false

def allV : Fv2 := ⟨152, #[], fun x y => some (decide (x = y))⟩
def halfV : Fv2 := ⟨153, #[], fun x y => some (decide (wrap64 (2 * x) ≥ y))⟩

theorem below_drew0 {w w' : World} (h : Drawn0 w w') : Below w.heap.size w w' := h.below

set_option maxHeartbeats 2000000 in
theorem allV_ok (w : World) : Fv2.Ok allV w := by
  refine ⟨enters_pr Try.func152 (by kernel_rfl) rfl, fun W a b r hW h => ?_⟩
  have h : some (decide (a = b)) = some r := h
  obtain rfl := Option.some.inj h
  show Calls Try.prog 152 #[.int .i64 a, .int .i64 b] W _
  clear hW h
  by_cases hab : a = b
  · have hd : decide (a = b) = true := decide_eq_true hab
    rw [hd]
    go_enter Try.func152, Try.ntmps152
    go_wp2
    go_ret
    exact ⟨by first | rfl | (simp [hab]; done) | simp_all, Below.refl _ _⟩
  · have hd : decide (a = b) = false := decide_eq_false hab
    rw [hd]
    go_enter Try.func152, Try.ntmps152
    go_wp2
    go_ret
    exact ⟨by first | rfl | (simp [hab]; done) | simp_all, Below.refl _ _⟩

set_option maxHeartbeats 2000000 in
theorem halfV_ok (w : World) : Fv2.Ok halfV w := by
  refine ⟨enters_pr Try.func153 (by kernel_rfl) rfl, fun W a b r hW h => ?_⟩
  have h : some (decide (wrap64 (2 * a) ≥ b)) = some r := h
  obtain rfl := Option.some.inj h
  show Calls Try.prog 153 #[.int .i64 a, .int .i64 b] W _
  clear hW h
  by_cases hab : wrap64 (2 * a) ≥ b
  · have hd : decide (wrap64 (2 * a) ≥ b) = true := decide_eq_true hab
    rw [hd]
    go_enter Try.func153, Try.ntmps153
    go_wp2
    go_ret
    exact ⟨by first | rfl | (simp [hab]; done) | simp_all, Below.refl _ _⟩
  · have hd : decide (wrap64 (2 * a) ≥ b) = false := decide_eq_false hab
    rw [hd]
    go_enter Try.func153, Try.ntmps153
    go_wp2
    go_ret
    exact ⟨by first | rfl | (simp [hab]; done) | simp_all, Below.refl _ _⟩

def impl_AllDone.f (k : Nat) (a0_0 : Int) (a0_1 : Int) (a0_2 : Int) (l0_3 : List (S27)) (a1 : Int) : Option (Int × Bool) := impl_firstDone.f k a0_0 a0_1 a0_2 l0_3 a1 allV
def impl_HalfDone.f (k : Nat) (a0_0 : Int) (a0_1 : Int) (a0_2 : Int) (l0_3 : List (S27)) (a1 : Int) : Option (Int × Bool) := impl_firstDone.f k a0_0 a0_1 a0_2 l0_3 a1 halfV

theorem impl_AllDone.mono : ∀ a0 a1 a2 a3 a4 k, LeO (impl_AllDone.f k a0 a1 a2 a3 a4) (impl_AllDone.f (k + 1) a0 a1 a2 a3 a4) := fun a0 a1 a2 a3 a4 k => impl_firstDone.mono _ _ _ _ _ _ _
theorem impl_HalfDone.mono : ∀ a0 a1 a2 a3 a4 k, LeO (impl_HalfDone.f k a0 a1 a2 a3 a4) (impl_HalfDone.f (k + 1) a0 a1 a2 a3 a4) := fun a0 a1 a2 a3 a4 k => impl_firstDone.mono _ _ _ _ _ _ _

set_option maxHeartbeats 2000000 in
set_option maxRecDepth 100000 in
theorem impl_AllDone.calls (k : Nat) (a0_0 : Int) (a0_1 : Int) (a0_2 : Int) (A0_3 : Option Addr) (c0_3 : Nat) (l0_3 : List (S27)) (a1 : Int) (r1 : Int) (r2 : Bool) (w : World)
    (hr0_3 : Kd.C k27 w A0_3 l0_3.length l0_3) (hc0_3 : l0_3.length ≤ c0_3) (h : impl_AllDone.f k a0_0 a0_1 a0_2 l0_3 a1 = some (r1, r2)) :
    Calls Try.prog 78 #[.agg #[.int .i64 a0_0, .int .i64 a0_1, .int .i64 a0_2, .slice A0_3 l0_3.length c0_3], .int .i64 a1] w fun e w' => e = .returned (.tuple #[.int .i64 r1, .bool r2]) ∧ Below w.heap.size w w' := by
  have hu := Try.underlying32
  have HR0 := Aside0.mk hr0_3
  have HT := Aside0.mk h
  clear hr0_3 h
  go_enter Try.func78, Try.ntmps78
  go_wp2_with (first | ((with_reducible refine gate_dst (N := 2) rfl ?_); refine box_event ?hg (N := 2) ?hd (cs := #[.int .i64 a0_0, .int .i64 a0_1, .int .i64 a0_2, .slice A0_3 l0_3.length c0_3]) (t := 32) ?hr ?_; (case hd => rfl); (case hg => rfl); (case hr => first | (go_simp; done) | (go_simp; rfl)); intro gb hg w1 hbox hb; have HG := Aside0.mk hg; clear hg; have HX := Aside0.mk hbox; have HB := Aside0.mk hb; clear hb hbox; have hcz0 : w1.cell? ⟨gb, 0, none⟩ = some (.int .i64 a0_0) := (blk_cell HX.out 0).trans rfl; have hcz1 : w1.cell? ⟨gb, 1, none⟩ = some (.int .i64 a0_1) := (blk_cell HX.out 1).trans rfl; have hcz2 : w1.cell? ⟨gb, 2, none⟩ = some (.int .i64 a0_2) := (blk_cell HX.out 2).trans rfl; have hcz3 : w1.cell? ⟨gb, 3, none⟩ = some (.slice A0_3 l0_3.length c0_3) := (blk_cell HX.out 3).trans rfl))
  refine (impl_firstDone.calls k a0_0 a0_1 a0_2 A0_3 c0_3 l0_3 a1 allV r1 r2 _ (allV_ok _) (Kd.C_below HR0.out HB.out) hc0_3 HT.out).mono ?_
  rintro e w' ⟨rfl, hb'⟩
  go_wp2_with fail
  go_ret2
  exact ⟨rfl, HB.out.trans (hb'.mono HB.out.size)⟩

set_option maxHeartbeats 2000000 in
set_option maxRecDepth 100000 in
theorem impl_HalfDone.calls (k : Nat) (a0_0 : Int) (a0_1 : Int) (a0_2 : Int) (A0_3 : Option Addr) (c0_3 : Nat) (l0_3 : List (S27)) (a1 : Int) (r1 : Int) (r2 : Bool) (w : World)
    (hr0_3 : Kd.C k27 w A0_3 l0_3.length l0_3) (hc0_3 : l0_3.length ≤ c0_3) (h : impl_HalfDone.f k a0_0 a0_1 a0_2 l0_3 a1 = some (r1, r2)) :
    Calls Try.prog 80 #[.agg #[.int .i64 a0_0, .int .i64 a0_1, .int .i64 a0_2, .slice A0_3 l0_3.length c0_3], .int .i64 a1] w fun e w' => e = .returned (.tuple #[.int .i64 r1, .bool r2]) ∧ Below w.heap.size w w' := by
  have hu := Try.underlying32
  have HR0 := Aside0.mk hr0_3
  have HT := Aside0.mk h
  clear hr0_3 h
  go_enter Try.func80, Try.ntmps80
  go_wp2_with (first | ((with_reducible refine gate_dst (N := 2) rfl ?_); refine box_event ?hg (N := 2) ?hd (cs := #[.int .i64 a0_0, .int .i64 a0_1, .int .i64 a0_2, .slice A0_3 l0_3.length c0_3]) (t := 32) ?hr ?_; (case hd => rfl); (case hg => rfl); (case hr => first | (go_simp; done) | (go_simp; rfl)); intro gb hg w1 hbox hb; have HG := Aside0.mk hg; clear hg; have HX := Aside0.mk hbox; have HB := Aside0.mk hb; clear hb hbox; have hcz0 : w1.cell? ⟨gb, 0, none⟩ = some (.int .i64 a0_0) := (blk_cell HX.out 0).trans rfl; have hcz1 : w1.cell? ⟨gb, 1, none⟩ = some (.int .i64 a0_1) := (blk_cell HX.out 1).trans rfl; have hcz2 : w1.cell? ⟨gb, 2, none⟩ = some (.int .i64 a0_2) := (blk_cell HX.out 2).trans rfl; have hcz3 : w1.cell? ⟨gb, 3, none⟩ = some (.slice A0_3 l0_3.length c0_3) := (blk_cell HX.out 3).trans rfl))
  refine (impl_firstDone.calls k a0_0 a0_1 a0_2 A0_3 c0_3 l0_3 a1 halfV r1 r2 _ (halfV_ok _) (Kd.C_below HR0.out HB.out) hc0_3 HT.out).mono ?_
  rintro e w' ⟨rfl, hb'⟩
  go_wp2_with fail
  go_ret2
  exact ⟨rfl, HB.out.trans (hb'.mono HB.out.size)⟩

end Go.Proofs.Ytkobjjadojpjfaa.Pr
