/- Proved here: what Board.areThrows answers; the conditions are the reading facts of its slices. -/
import Derived.Test.YtkobjjadojpjfaaHFunc
import Derived.Test.YtkobjjadojpjfaaFGB
namespace Go.Proofs.Ytkobjjadojpjfaa.Pr
open Go.RowKit Go.Proofs.YtkobjjadojpjfaaW.PrintWords Go.Proofs.YtkobjjadojpjfaaW.PrintLast Go.Proofs.YtkobjjadojpjfaaW.PrintMore
set_option linter.unusedVariables false
set_option linter.unusedSimpArgs false

def impl_Board_areThrows.f (a0_0 : Int) (a0_1 : Int) (a0_2 : Int) (l0_3 : List (S27)) (l1 : List Int) : Option (Bool) :=
  if (l1.length : Int) ≤ 200 then ((anyF (fun n => (impl_within.f n 1 a0_1).bind fun s => some (!s)) l1).bind fun q => some (!q)) else some false

set_option maxHeartbeats 2000000 in
theorem areThrows_pred (a0_0 : Int) (a0_1 : Int) (a0_2 : Int) (v3 : Value) (gb : Nat) (w : World)
    (hbox : w.heap[gb]? = some (.cells #[.int .i64 a0_0, .int .i64 a0_1, .int .i64 a0_2, v3] 32 (0, 0))) :
    PredI 202 #[.pointer (some ⟨gb, 0, none⟩)] w (fun n => (impl_within.f n 1 a0_1).bind fun s => some (!s)) := by
  intro W x r hW hx
  obtain ⟨s, hs, hx⟩ := Option.bind_eq_some_iff.mp hx
  obtain rfl := Option.some.inj hx
  have hbox' := (hW.block gb (blk_lt hbox)).trans hbox
  have hcz1 : W.cell? ⟨gb, 1, none⟩ = some (.int .i64 a0_1) := (blk_cell hbox' 1).trans rfl
  have HC := fun W' => Aside0.mk (impl_within.calls x 1 a0_1 s W' hs)
  clear hbox' hbox hs hx
  have hu := Try.underlying32
  go_enter Try.func202, Try.ntmps202
  go_wp2_with fail
  refine (HC _).out.mono ?_
  rintro e w' ⟨rfl, hb'⟩
  go_wp2_with fail
  go_ret
  exact ⟨rfl, hb'.below⟩

set_option maxHeartbeats 2000000 in
set_option maxRecDepth 100000 in
theorem impl_Board_areThrows.calls (a0_0 : Int) (a0_1 : Int) (a0_2 : Int) (A0_3 : Option Addr) (c0_3 : Nat) (l0_3 : List (S27)) (A1 : Option Addr) (c1 : Nat) (l1 : List Int) (r : Bool) (w : World)
    (hr0_3 : Kd.C k27 w A0_3 l0_3.length l0_3) (hc0_3 : l0_3.length ≤ c0_3) (hr1 : Kd.C (Kd.int .i64) w A1 l1.length l1) (hc1 : l1.length ≤ c1) (h : impl_Board_areThrows.f a0_0 a0_1 a0_2 l0_3 l1 = some r) :
    Calls Try.prog 154 #[.agg #[.int .i64 a0_0, .int .i64 a0_1, .int .i64 a0_2, .slice A0_3 l0_3.length c0_3], .slice A1 l1.length c1] w fun e w' => e = .returned (.bool r) ∧ Below w.heap.size w w' := by
  have hu := Try.underlying32
  have HR1 := Aside0.mk hr1
  have eg := enters_fn Try.func202 (by kernel_rfl) rfl
  clear hr0_3 hr1
  unfold impl_Board_areThrows.f at h
  by_cases hl : (l1.length : Int) ≤ 200
  · rw [if_pos hl] at h
    obtain ⟨q, hq, h⟩ := Option.bind_eq_some_iff.mp h
    obtain rfl := Option.some.inj h
    have HQ := Aside0.mk hq
    clear hq h
    have hl2 : decide (l1.length ≤ 200) = true := decide_eq_true (by omega)
    have hl3 : decide ((l1.length : Int) ≤ 200) = true := decide_eq_true hl
    clear hl
    go_enter Try.func154, Try.ntmps154
    go_wp2_with (first | ((with_reducible refine gate_dst (N := 2) rfl ?_); refine box_event ?hg (N := 2) ?hd (cs := #[.int .i64 a0_0, .int .i64 a0_1, .int .i64 a0_2, .slice A0_3 l0_3.length c0_3]) (t := 32) ?hr ?_; (case hd => rfl); (case hg => rfl); (case hr => first | (go_simp; done) | (go_simp; rfl)); intro gb hg w1 hbox hb; have HG := Aside0.mk hg; clear hg; have HX := Aside0.mk hbox; have HB := Aside0.mk hb; clear hb hbox))
    refine (containsFunc_int A1 c1 l1 _ _ _ q _ eg (areThrows_pred a0_0 a0_1 a0_2 _ gb _ HX.out) (Kd.C_below HR1.out HB.out) hc1 HQ.out).mono ?_
    rintro e w3 ⟨rfl, hb3⟩
    go_wp2_with fail
    go_ret
    exact ⟨rfl, HB.out.trans (hb3.mono HB.out.size)⟩
  · rw [if_neg hl] at h
    obtain rfl := Option.some.inj h
    have hl2 : decide (l1.length ≤ 200) = false := decide_eq_false (by omega)
    have hl3 : decide ((l1.length : Int) ≤ 200) = false := decide_eq_false hl
    clear hl
    go_enter Try.func154, Try.ntmps154
    go_wp2_with (first | ((with_reducible refine gate_dst (N := 2) rfl ?_); refine box_event ?hg (N := 2) ?hd (cs := #[.int .i64 a0_0, .int .i64 a0_1, .int .i64 a0_2, .slice A0_3 l0_3.length c0_3]) (t := 32) ?hr ?_; (case hd => rfl); (case hg => rfl); (case hr => first | (go_simp; done) | (go_simp; rfl)); intro gb hg w1 hbox hb; have HG := Aside0.mk hg; clear hg; have HX := Aside0.mk hbox; have HB := Aside0.mk hb; clear hb hbox))
    go_ret
    exact ⟨rfl, HB.out⟩

end Go.Proofs.Ytkobjjadojpjfaa.Pr
