/- Proved here: what slices.IndexFunc and slices.ContainsFunc over whole numbers answer, given what the function value answers; the condition is the function value's own contract. -/
import Derived.Test.YtkobjjadojpjfaaF0
namespace Go.Proofs.Ytkobjjadojpjfaa.Pr
open Go.RowKit Go.Proofs.YtkobjjadojpjfaaW.PrintWords Go.Proofs.YtkobjjadojpjfaaW.PrintLast Go.Proofs.YtkobjjadojpjfaaW.PrintMore
set_option linter.unusedVariables false
set_option linter.unusedSimpArgs false

theorem enters_fn {f : FuncId} {fn : Func} {c : Code} (hf : Try.prog.funcs[f]? = some fn) (hname : (fn.name == "runtime.NumGoroutine") = false) (hb : fn.body = some c) :
    ∀ (args : Array Value) (w : World), (callFunc f args).run Try.prog w = .ok (.enter f args) w := by
  intro args w
  have h1 : fn.name ≠ "runtime.NumGoroutine" := by simpa using hname
  simp [callFunc, hf, h1, hb, mark]

/-- the function value answers p at every number, in every world in which all that lay lies unturned; it may make memory -/
def PredI (g : Nat) (lb : Array Value) (w : World) (p : Int → Option Bool) : Prop :=
  ∀ (W : World) (x : Int) (r : Bool), Below w.heap.size w W → p x = some r → Calls Try.prog g (#[.int .i64 x] ++ lb) W fun e w' => e = .returned (.bool r) ∧ Below W.heap.size W w'

def idxF (p : Int → Option Bool) : List Int → Nat → Option Int
  | [], _ => some (-1)
  | x :: xs, i => (p x).bind fun b => if b = true then some (i : Int) else idxF p xs (i + 1)

def anyF (p : Int → Option Bool) : List Int → Option Bool
  | [] => some false
  | x :: xs => (p x).bind fun b => if b = true then some true else anyF p xs

theorem idxF_any (p : Int → Option Bool) : ∀ (l : List Int) (i : Nat) (r : Bool), anyF p l = some r → ∃ n : Int, idxF p l i = some n ∧ decide (0 ≤ n) = r ∧ -1 ≤ n ∧ n ≤ (i + l.length : Nat)
  | [], i, r, h => by
    obtain rfl := Option.some.inj h
    exact ⟨-1, rfl, rfl, by omega, by omega⟩
  | x :: xs, i, r, h => by
    unfold anyF at h
    obtain ⟨b, hb, h⟩ := Option.bind_eq_some_iff.mp h
    unfold idxF
    rw [hb]
    simp only [Option.bind_some]
    cases b with
    | true =>
      rw [if_pos rfl] at h ⊢
      obtain rfl := Option.some.inj h
      exact ⟨_, rfl, by simp, by omega, by simp; omega⟩
    | false =>
      rw [if_neg (by decide)] at h ⊢
      obtain ⟨n, hn, h1, h2, h3⟩ := idxF_any p xs (i + 1) r h
      exact ⟨n, hn, h1, h2, by simp; omega⟩

theorem drop_step (l : List Int) (i : Nat) (h : i < l.length) : l.drop i = rd l (i : Int) :: l.drop (i + 1) := by
  rw [List.drop_eq_getElem_cons h]
  congr 1
  simp [rd, List.getD, h]

set_option maxHeartbeats 2000000 in
theorem indexFunc_int (A0 : Option Addr) (c0 : Nat) (l0 : List Int) (g : Nat) (lb : Array Value) (p : Int → Option Bool) (r : Int) (w : World)
    (eg : ∀ args w, (callFunc g args).run Try.prog w = .ok (.enter g args) w) (hp : PredI g lb w p) (hr : Kd.C (Kd.int .i64) w A0 l0.length l0) (hc : l0.length ≤ c0) (h : idxF p l0 0 = some r) :
    Calls Try.prog 215 #[.slice A0 l0.length c0, .func (.func g) #[] lb] w fun e w' => e = .returned (.int .i64 r) ∧ Below w.heap.size w w' := by
  have hmax : l0.length ≤ 9223372036854775807 := Kd.C_max hr
  have HR := Aside0.mk hr
  have HP := Aside0.mk hp
  have H := Aside0.mk h
  clear hr hp h
  go_enter Try.func215, Try.ntmps215
  go_wp2
  go_loopg [5, 8] l0.length (fun gg _ s8 wr => ∃ kk : Nat, kk ≤ l0.length ∧ l0.length - kk ≤ gg ∧ s8 = .int .i64 kk ∧ Aside0 (Below w.heap.size w wr) ∧ Aside0 (idxF p (l0.drop kk) kk = some r))
  case atStart => exact ⟨0, Nat.zero_le _, by omega, rfl, ⟨Below.refl _ _⟩, ⟨by simpa using H.out⟩⟩
  case round =>
    obtain ⟨kk, hkk, hg, rfl, HB, HI⟩ := hrel
    clear H
    by_cases hlt : kk < l0.length
    · have hltz : (kk : Int) < (l0.length : Int) := by omega
      obtain ⟨ad, rfl, hcell⟩ := Kd.at_int (Kd.C_below HR.out HB.out) (kk : Int) (by omega) (by omega)
      have HI2 := HI.out
      clear HI
      rw [drop_step l0 kk hlt] at HI2
      unfold idxF at HI2
      obtain ⟨b, hb, HI2⟩ := Option.bind_eq_some_iff.mp HI2
      have hcall := fun W hW => HP.out W (rd l0 kk) b hW hb
      rw [Int.toNat_natCast] at hcell
      clear hb
      generalize rd l0 kk = x at *
      cases b with
      | true =>
        rw [if_pos rfl] at HI2
        obtain rfl := Option.some.inj HI2
        go_wp2_with fail
        refine (hcall _ HB.out).mono ?_
        rintro e w' ⟨rfl, hb'⟩
        go_wp2_with fail
        go_ret
        exact ⟨rfl, HB.out.trans (hb'.mono HB.out.size)⟩
      | false =>
        rw [if_neg (by decide)] at HI2
        have HI := Aside0.mk HI2
        clear HI2
        go_wp2_with fail
        refine (hcall _ HB.out).mono ?_
        rintro e w' ⟨rfl, hb'⟩
        go_wp2_with fail
        go_roundg (l0.length - (kk + 1))
        case measure => omega
        case rel => exact ⟨kk + 1, by omega, by omega, by go_num, ⟨HB.out.trans (hb'.mono HB.out.size)⟩, HI⟩
    · have hltz : ¬ (kk : Int) < (l0.length : Int) := by omega
      have hkk2 : kk = l0.length := by omega
      subst hkk2
      have HI2 := HI.out
      rw [List.drop_length] at HI2
      obtain rfl := Option.some.inj HI2
      go_wp2
      go_ret
      exact ⟨rfl, HB.out⟩

set_option maxHeartbeats 2000000 in
theorem containsFunc_int (A0 : Option Addr) (c0 : Nat) (l0 : List Int) (g : Nat) (lb : Array Value) (p : Int → Option Bool) (r : Bool) (w : World)
    (eg : ∀ args w, (callFunc g args).run Try.prog w = .ok (.enter g args) w) (hp : PredI g lb w p) (hr : Kd.C (Kd.int .i64) w A0 l0.length l0) (hc : l0.length ≤ c0) (h : anyF p l0 = some r) :
    Calls Try.prog 195 #[.slice A0 l0.length c0, .func (.func g) #[] lb] w fun e w' => e = .returned (.bool r) ∧ Below w.heap.size w w' := by
  obtain ⟨n, hn, h1, h2, h3⟩ := idxF_any p l0 0 r h
  have hmax : l0.length ≤ 9223372036854775807 := Kd.C_max hr
  have hcall := fun W hW hC => indexFunc_int A0 c0 l0 g lb p n W eg hW hC hc hn
  go_enter Try.func195, Try.ntmps195
  go_wp2_with fail
  refine (hcall _ hp hr).mono ?_
  rintro e w' ⟨rfl, hb'⟩
  go_wp2_with fail
  go_ret
  exact ⟨by first | (rw [h1]; done) | simp_all, hb'⟩

end Go.Proofs.Ytkobjjadojpjfaa.Pr
