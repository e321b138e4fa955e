/- Proved here: the head of the translation says that it is a plain cut; no condition. -/
import Derived.Test.YtnbleinhabllnaaDoorRows
import Derived.KernelRfl
import Derived.JoinedOf
namespace Go.Proofs.YtnbleinhabllnaaDoor.Pr
set_option maxRecDepth 100000
def headCodes : List Nat := [104, 97, 114, 110, 101, 115, 115, 32, 54, 50, 48, 51, 48, 55, 55, 49, 49, 102, 55, 100, 100, 98, 55, 52, 98, 57, 97, 51, 97, 98, 101, 54, 49, 102, 98, 54, 54, 101, 53, 97, 99, 57, 52, 55, 100, 98, 54, 102, 57, 51, 57, 53, 56, 98, 102, 56, 101, 102, 97, 54, 99, 56, 97, 56, 50, 100, 49, 99, 53, 54, 101, 57, 32, 99, 117, 116, 32, 97, 116, 32, 108, 111, 111, 112, 46, 101, 120, 97, 109, 112, 108, 101, 47, 103, 48, 49, 51, 48, 54, 47, 108, 97, 119, 115, 46, 70, 110, 69, 120, 97, 99, 116, 80, 97, 114, 115, 101, 66, 111, 97, 114, 100, 32, 108, 111, 111, 112, 46, 101, 120, 97, 109, 112, 108, 101, 47, 103, 48, 49, 51, 48, 54, 47, 108, 97, 119, 115, 46, 70, 110, 69, 120, 97, 99, 116, 80, 97, 114, 115, 101, 82, 97, 99, 101, 32, 108, 111, 111, 112, 46, 101, 120, 97, 109, 112, 108, 101, 47, 103, 48, 49, 51, 48, 54, 47, 108, 97, 119, 115, 46, 70, 110, 69, 120, 97, 99, 116, 66, 111, 97, 114, 100, 84, 101, 120, 116, 32, 108, 111, 111, 112, 46, 101, 120, 97, 109, 112, 108, 101, 47, 103, 48, 49, 51, 48, 54, 47, 108, 97, 119, 115, 46, 70, 110, 69, 120, 97, 99, 116, 82, 97, 99, 101, 84, 101, 120, 116]
theorem initOrder_eq : Tryd.prog.initOrder = String.ofList (headCodes.map Char.ofNat) := by kernel_rfl
theorem initList : Tryd.prog.initOrder.toList = headCodes.map Char.ofNat := by rw [initOrder_eq, String.toList_ofList]
theorem headCut : (behindMainWord (wordsSigns (headCodes.map Char.ofNat))).head? = some (List.map Char.ofNat [99, 117, 116]) := by kernel_rfl
theorem cutList : "cut".toList = List.map Char.ofNat [99, 117, 116] := by
  rw [show "cut" = String.ofList (List.map Char.ofNat [99, 117, 116]) from by kernel_rfl, String.toList_ofList]
theorem headWords : ∃ rest, behindMainWord (wordsSigns Tryd.prog.initOrder.toList) = "cut".toList :: rest := by
  rw [initList]
  have h := headCut
  rw [← cutList] at h
  cases hb : behindMainWord (wordsSigns (headCodes.map Char.ofNat)) with
  | nil => rw [hb] at h; cases h
  | cons c rest =>
    rw [hb] at h
    obtain rfl := Option.some.inj h
    exact ⟨rest, rfl⟩
theorem no_word {a b : String} (h : a ≠ b) : (a.toList == b.toList) = false := by
  rw [beq_eq_false_iff_ne]
  exact fun e => h (String.toList_inj.mp e)
theorem strip_none (w : List Char) (ws : List (List Char)) : ∀ os : List String, (∀ o ∈ os, (w == o.toList) = false) → stripLifts os (w :: ws) = ([], w :: ws)
  | [], _ => rfl
  | o :: os, h => by
    unfold stripLifts
    rw [h o (List.mem_cons_self ..)]
    exact strip_none w ws os (fun x hx => h x (List.mem_cons_of_mem _ hx))
theorem noLift : ∀ o ∈ liftWords, ("cut".toList == o.toList) = false := fun o ho => no_word (fun e => by
  subst e
  revert ho
  decide)
theorem laysNone : Tryd.prog.laysLater = false := by kernel_rfl
theorem reflectNone : Tryd.prog.bearsReflect = false := by kernel_rfl
theorem doorOk : Tryd.prog.doorFits [] = true := by kernel_rfl
theorem mayEnter_of {P : Program} {c : List Char} {rest : List (List Char)} (h : behindMainWord (wordsSigns P.initOrder.toList) = c :: rest) (hs : stripLifts liftWords (c :: rest) = ([], c :: rest)) (e : (c == "cut".toList) = true) (h1 : P.laysLater = false) (h2 : P.bearsReflect = false) (h3 : P.doorFits [] = true) : P.mayEnter = true := by
  unfold Program.mayEnter
  rw [h]
  simp only [hs, h1, h2, h3]
  rw [beq_iff_eq] at e
  subst e
  generalize "cut".toList = c
  generalize "gc".toList = g1
  generalize "spec".toList = g2
  generalize "stop".toList = g3
  generalize "carried".toList = g4
  simp
theorem noHeadLifts_of {P : Program} {c : List Char} {rest : List (List Char)} (h : behindMainWord (wordsSigns P.initOrder.toList) = c :: rest) (hs : stripLifts liftWords (c :: rest) = ([], c :: rest)) : P.headLifts = [] := by
  unfold Program.headLifts
  rw [h]
  simp only [hs]
  simp
theorem notFinal_of {P : Program} {c : List Char} {rest : List (List Char)} (h : behindMainWord (wordsSigns P.initOrder.toList) = c :: rest) (hs : stripLifts liftWords (c :: rest) = ([], c :: rest)) (e : (c == "carried".toList) = false) : P.liftsFinal = false := by
  unfold Program.liftsFinal
  rw [noHeadLifts_of h hs, h]
  generalize "gc".toList = g1
  generalize "cut".toList = g2
  generalize "carried".toList = g4 at e ⊢
  have e' : c ≠ g4 := fun z => by rw [z] at e; simp at e
  simp [e']
theorem make_of {P : Program} {c : List Char} {rest : List (List Char)} (h : behindMainWord (wordsSigns P.initOrder.toList) = c :: rest) (e1 : (c == "gc".toList) = false) (e2 : (c == "spec".toList) = false) (e3 : (c == "cut".toList) = true) : P.make = some .cut := by
  unfold Program.make
  rw [h]
  simp only [e1, e2, e3]
  simp
theorem mayEnter : Tryd.prog.mayEnter = true := by
  obtain ⟨rest, h⟩ := headWords
  exact mayEnter_of h (strip_none _ rest _ noLift) (by rw [beq_iff_eq]) laysNone reflectNone doorOk
theorem notFinal : Tryd.prog.liftsFinal = false := by
  obtain ⟨rest, h⟩ := headWords
  exact notFinal_of h (strip_none _ rest _ noLift) (no_word (by decide))
theorem madeCut : Tryd.prog.make = some .cut := by
  obtain ⟨rest, h⟩ := headWords
  exact make_of h (no_word (by decide)) (no_word (by decide)) (by rw [beq_iff_eq])
end Go.Proofs.YtnbleinhabllnaaDoor.Pr
