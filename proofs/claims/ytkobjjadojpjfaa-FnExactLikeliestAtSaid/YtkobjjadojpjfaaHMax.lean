/- Proved here: what slices.Max answers over whole numbers, for a list that is not empty; the conditions are the reading facts of its slice. -/
import Derived.Test.YtkobjjadojpjfaaF0
namespace Go.Proofs.Ytkobjjadojpjfaa.Pr
open Go.RowKit Go.Proofs.YtkobjjadojpjfaaW.PrintWords Go.Proofs.YtkobjjadojpjfaaW.PrintLast Go.Proofs.YtkobjjadojpjfaaW.PrintMore
attribute [local go_sem] max2_int min2_int max_two min_two max_three min_three max_four min_four
set_option linter.unusedVariables false
set_option linter.unusedSimpArgs false

def maxFrom (l : List Int) : Nat → Int → Int
  | 0, m => m
  | d + 1, m => maxFrom l d (mx m (rd l ((l.length - (d + 1) : Nat) : Int)))

def slices_Max_int_int.f (l0 : List Int) : Option (Int) := if 0 < l0.length then some (maxFrom l0 (l0.length - 1) (rd l0 0)) else none

set_option maxHeartbeats 2000000 in
set_option maxRecDepth 100000 in
theorem slices_Max_int_int.calls (A0 : Option Addr) (c0 : Nat) (l0 : List Int) (r : Int) (w : World) (hr0 : Kd.C (Kd.int .i64) w A0 l0.length l0) (hc0 : l0.length ≤ c0) (h : slices_Max_int_int.f l0 = some r) :
    Calls Try.prog 165 #[.slice A0 l0.length c0] w fun e w' => e = .returned (.int .i64 r) ∧ Drawn0 w w' := by
  have hmax : l0.length ≤ 9223372036854775807 := Kd.C_max hr0
  unfold slices_Max_int_int.f at h
  by_cases hp : 0 < l0.length
  · rw [if_pos hp] at h
    have h := Option.some.inj h
    have HM := Aside0.mk h
    clear h
    obtain ⟨ad, rfl, hcell0⟩ := Kd.at_int hr0 0 (by omega) (by omega)
    have HR := Aside0.mk hr0
    clear hr0
    have hd1 : decide (l0.length < 1) = false := decide_eq_false (by omega)
    have hd2 : decide ((l0.length : Int) < 1) = false := decide_eq_false (by omega)
    have hz : (0 : Int).toNat = 0 := rfl
    rw [hz] at hcell0
    clear hz
    have hcell1 : w.cell? ad = some (.int .i64 (rd l0 0)) := by rwa [show ad.add 0 = ad by (unfold Addr.add; split <;> simp_all)] at hcell0
    clear hcell0
    go_enter Try.func165, Try.ntmps165
    go_wp2
    go_loopg [3, 4] l0.length (fun gg s3 s4 wr => ∃ (i : Nat) (m : Int), 1 ≤ i ∧ i ≤ l0.length ∧ l0.length - i ≤ gg ∧ s3 = .int .i64 m ∧ s4 = .int .i64 i ∧ Aside0 (maxFrom l0 (l0.length - i) m = r) ∧ Aside0 (Drawn0 w wr))
    case atStart => exact ⟨1, rd l0 0, by omega, by omega, by omega, rfl, rfl, HM, ⟨by repeat (first | exact Drawn0.refl _ | apply Drawn0.step)⟩⟩
    case round =>
      obtain ⟨i, m, h1, h2, hg, rfl, rfl, HI, ⟨m1, rfl⟩⟩ := hrel
      clear hcell1 HM
      by_cases hlt : i < l0.length
      · have hlti : (i : Int) < (l0.length : Int) := by omega
        obtain ⟨ad', e', hcell⟩ := Kd.at_int HR.out (i : Int) (by omega) (by omega)
        injection e' with e'
        subst e'
        rw [Int.toNat_natCast] at hcell
        have H := HI.out
        clear HI
        obtain ⟨d, hd⟩ : ∃ d, l0.length - i = d + 1 := ⟨l0.length - i - 1, by omega⟩
        rw [hd] at H
        unfold maxFrom at H
        rw [show l0.length - (d + 1) = i by omega] at H
        have HI := Aside0.mk (show maxFrom l0 (l0.length - (i + 1)) (mx m (rd l0 (i : Int))) = r by rw [show l0.length - (i + 1) = d by omega]; exact H)
        clear H hd
        generalize rd l0 (i : Int) = x at *
        by_cases hm : m < x
        · have HI2 := HI.out
          clear HI
          rw [show mx m x = x by unfold mx; rw [if_pos hm]] at HI2
          have HI := Aside0.mk HI2
          clear HI2
          go_wp2
          go_roundg (l0.length - (i + 1))
          case measure => omega
          case rel => exact ⟨i + 1, _, by omega, by omega, by omega, rfl, by go_num, HI, ⟨by repeat (first | exact Drawn0.refl _ | apply Drawn0.step)⟩⟩
        · have HI2 := HI.out
          clear HI
          rw [show mx m x = m by unfold mx; rw [if_neg hm]] at HI2
          have HI := Aside0.mk HI2
          clear HI2
          go_wp2
          go_roundg (l0.length - (i + 1))
          case measure => omega
          case rel => exact ⟨i + 1, _, by omega, by omega, by omega, rfl, by go_num, HI, ⟨by repeat (first | exact Drawn0.refl _ | apply Drawn0.step)⟩⟩
      · have hlti : ¬ (i : Int) < (l0.length : Int) := by omega
        have H := HI.out
        rw [show l0.length - i = 0 by omega] at H
        unfold maxFrom at H
        subst H
        go_wp2
        go_ret
        exact ⟨rfl, by repeat (first | exact Drawn0.refl _ | apply Drawn0.step)⟩
  · rw [if_neg hp] at h
    cases h

end Go.Proofs.Ytkobjjadojpjfaa.Pr
