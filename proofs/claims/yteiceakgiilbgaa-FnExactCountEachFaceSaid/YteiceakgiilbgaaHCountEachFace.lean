/- Proved here: what impl.CountEachFace answers; no condition. -/
import Derived.Test.YteiceakgiilbgaaFImplCounted
import Derived.Test.YteiceakgiilbgaaFImplAreDice
namespace Go.Proofs.Yteiceakgiilbgaa.Pr
open Go.RowKit Go.Proofs.YteiceakgiilbgaaW.PrintWords Go.Proofs.YteiceakgiilbgaaW.PrintLast Go.Proofs.YteiceakgiilbgaaW.PrintMore
set_option linter.unusedVariables false
set_option linter.unusedSimpArgs false

def eachV : Fv1 := ⟨56, #[], fun c => some (decide (c > 0))⟩

set_option maxHeartbeats 2000000 in
theorem eachV_ok (w : World) : Fv1.Ok eachV w := by
  refine ⟨enters_pr Try.func56 (by kernel_rfl) rfl, fun W a r hW h => ?_⟩
  have h : some (decide (a > 0)) = some r := h
  obtain rfl := Option.some.inj h
  show Calls Try.prog 56 #[.int .i64 a] W _
  clear hW h
  by_cases hab : a > 0
  · have hd : decide (a > 0) = true := decide_eq_true hab
    rw [hd]
    go_enter Try.func56, Try.ntmps56
    go_wp2
    go_ret
    exact ⟨by first | rfl | (simp [hab]; done) | simp_all, Below.refl _ _⟩
  · have hd : decide (a > 0) = false := decide_eq_false hab
    rw [hd]
    go_enter Try.func56, Try.ntmps56
    go_wp2
    go_ret
    exact ⟨by first | rfl | (simp [hab]; done) | simp_all, Below.refl _ _⟩

def impl_CountEachFace.f (k : Nat) (a0 : Int) (a1 : Int) : Option (Int × Bool) :=
  (impl_areDice.f a0 a1).bind fun t => if t = true then ((impl_counted.f k a0 a1 eachV).bind fun r => some (r, true)) else some (0, false)

set_option maxHeartbeats 2000000 in
set_option maxRecDepth 100000 in
theorem impl_CountEachFace.calls (k : Nat) (a0 : Int) (a1 : Int) (r1 : Int) (r2 : Bool) (w : World) (h : impl_CountEachFace.f k a0 a1 = some (r1, r2)) :
    Calls Try.prog 26 #[.int .i64 a0, .int .i64 a1] w fun e w' => e = .returned (.tuple #[.int .i64 r1, .bool r2]) ∧ Below w.heap.size w w' := by
  unfold impl_CountEachFace.f at h
  obtain ⟨t, ht, h⟩ := Option.bind_eq_some_iff.mp h
  have HT := fun W => Aside0.mk (impl_areDice.calls a0 a1 t W ht)
  clear ht
  cases t with
  | false =>
    rw [if_neg (by decide)] at h
    simp only [Option.some.injEq, Prod.mk.injEq] at h
    obtain ⟨rfl, rfl⟩ := h
    go_enter Try.func26, Try.ntmps26
    go_wp2_with fail
    refine (HT _).out.mono ?_
    rintro e w' ⟨rfl, hb'⟩
    go_wp2_with fail
    go_ret2
    exact ⟨rfl, hb'.below⟩
  | true =>
    rw [if_pos rfl] at h
    obtain ⟨q, hq, h⟩ := Option.bind_eq_some_iff.mp h
    simp only [Option.some.injEq, Prod.mk.injEq] at h
    obtain ⟨rfl, rfl⟩ := h
    have HQ := Aside0.mk hq
    clear hq
    go_enter Try.func26, Try.ntmps26
    go_wp2_with fail
    refine (HT _).out.mono ?_
    rintro e w1 ⟨rfl, hb1⟩
    have HB := Aside0.mk hb1.below
    clear hb1
    go_wp2_with fail
    refine (impl_counted.calls k a0 a1 eachV q _ (eachV_ok _) HQ.out).mono ?_
    rintro e w2 ⟨rfl, hb2⟩
    go_wp2_with fail
    go_ret2
    exact ⟨rfl, HB.out.trans (hb2.mono HB.out.size)⟩

end Go.Proofs.Yteiceakgiilbgaa.Pr
