/- The row of the law FnExactBoardText, out of its Pure and its walk; no condition of its own. -/
import Derived.Test.YtnbleinhabllnaaDoorRows
import Derived.Test.YtnbleinhabllnaaDoorHead
import Derived.Test.YtnbleinhabllnaaDoorOpen
import Derived.Test.YtnbleinhabllnaaDoorSFnExactBoardText
import Derived.Test.YtnbleinhabllnaaDoorPureFnExactBoardText
import Derived.WalkKit
import Derived.ProofKit
import Derived.OpenShut
import Derived.ShutString
import Derived.ChangeOld
import Derived.Below
import Derived.SizedLaws
import Derived.JoinedOf
import Derived.LaidMore
import Derived.LaidHandle
import Derived.Stop.LaidErr
import Derived.SevenTiedAt
import Derived.Test.YtnbleinhabllnaaDoorTie
import Derived.Test.YtnbleinhabllnaaDoorCards
namespace Go.Proofs.YtnbleinhabllnaaDoor.fnExactBoardText
open Go.ChangeShapes Go.WideShapes Go.ChangeAt Go.RowKit
open Go.ChangeMaps (open_string shut_string)
set_option linter.unusedVariables false
set_option maxRecDepth 100000
theorem fact0 : (Rows.fnExactBoardTextRow.wf (OpenSpec.ofChange Rows.fnExactBoardTextSpec)) = true := by kernel_rfl
theorem fact3 : (Tryd.f5.params.all (Tryd.prog.readableRec ·)) = true := by kernel_rfl
theorem fact4 : (namedTie Tryd.prog Rows.fnExactBoardTextRow.named Rows.fnExactBoardTextSpec.vars) = true := by kernel_rfl
theorem fact5 : ((Rows.fnExactBoardTextRow.stops == [])) = true := by kernel_rfl
theorem fact7 : ((Rows.fnExactBoardTextRow.knobs == [])) = true := by kernel_rfl
theorem fact9 : ((Rows.fnExactBoardTextRow.inPlace == Tryd.prog.inPlace 5)) = true := by kernel_rfl
theorem fact10 : ((Rows.fnExactBoardTextRow.unfollowed == Tryd.prog.unfollowed 5)) = true := by kernel_rfl
theorem fact11 : ((Rows.fnExactBoardTextRow.recurses == Tryd.prog.recurses 5)) = true := by kernel_rfl
theorem fact12 : ((Rows.fnExactBoardTextRow.named == Tryd.prog.varsNamed 5)) = true := by kernel_rfl
theorem fact13 : ((Rows.fnExactBoardTextRow.maps == (Tryd.f5.params.toList ++ Rows.fnExactBoardTextSpec.plain.varTypes Tryd.prog).any (Tryd.prog.mapsRec ·))) = true := by kernel_rfl
theorem fact14 : ((Rows.fnExactBoardTextRow.ifaces == (Tryd.f5.params.toList ++ Rows.fnExactBoardTextSpec.plain.varTypes Tryd.prog).any (Tryd.prog.ifacesRec ·))) = true := by kernel_rfl
theorem fact15 : ((Rows.fnExactBoardTextRow.mapsOut == Tryd.prog.mapsAmong Tryd.f5.resultTypes.toList)) = true := by kernel_rfl
theorem fact16 : ((Rows.fnExactBoardTextRow.loops == (Tryd.f5.params.toList ++ Rows.fnExactBoardTextSpec.plain.varTypes Tryd.prog).any (Tryd.prog.loopsFrom ·))) = true := by kernel_rfl
theorem fact17 : ((Rows.fnExactBoardTextRow.wideKeys == (Tryd.f5.params.toList ++ Rows.fnExactBoardTextSpec.plain.varTypes Tryd.prog ++ Tryd.f5.resultTypes.toList).any (Tryd.prog.wideKeysFrom ·))) = true := by kernel_rfl
theorem fact18 : (Rows.fnExactBoardTextSpec.vars.all (Tryd.prog.varReadable ·)) = true := by kernel_rfl
theorem fact19 : (Tryd.f5.resultTypes.all (fun t => Tryd.prog.readableRec t && decide (t < Tryd.prog.types.size))) = true := by kernel_rfl
theorem fact20 : ((Rows.fnExactBoardTextRow.ifacesOut == Tryd.f5.resultTypes.toList.any (Tryd.prog.ifacesRec ·))) = true := by kernel_rfl
theorem fact21 : ((Rows.fnExactBoardTextRow.loopsOut == Tryd.f5.resultTypes.toList.any (Tryd.prog.loopsFrom ·))) = true := by kernel_rfl
theorem fact22 : ((Rows.fnExactBoardTextRow.plainKeys == Tryd.prog.plainKeys)) = true := by kernel_rfl
theorem fact23 : (Rows.fnExactBoardTextRow.shortTexts.isNone) = true := by kernel_rfl
theorem fact24 : (Tryd.prog.stopsHeard) = true := by kernel_rfl
theorem fact26 : ((Rows.fnExactBoardTextRow.lifted == Tryd.prog.liftsFinal)) = true := by rw [Pr.notFinal]; kernel_rfl
theorem fact27 : ((Tryd.prog.make == some Rows.fnExactBoardTextRow.make)) = true := by rw [Pr.madeCut]; kernel_rfl
theorem fact28 : ((Rows.fnExactBoardTextRow.kinds == (if Rows.fnExactBoardTextRow.domain.isEmpty then [] else Tryd.f5.params.toList.map fun t => match Tryd.prog.underlying t with | some (.int k) => some k | _ => none))) = true := by kernel_rfl
theorem fact29 : ((Rows.fnExactBoardTextRow.pinned == Rows.fnExactBoardTextRow.pinnedBy)) = true := by kernel_rfl
theorem fact30 : ((Rows.fnExactBoardTextRow.veiled == (Tryd.f5.params.toList ++ Rows.fnExactBoardTextSpec.plain.varTypes Tryd.prog ++ Tryd.f5.resultTypes.toList).any (Tryd.prog.veiledRec ·))) = true := by kernel_rfl
theorem fact31 : (Rows.fnExactBoardTextRow.veiledFits Tryd.prog Tryd.f5.params.toList (Tryd.f5.params.toList ++ Rows.fnExactBoardTextSpec.plain.varTypes Tryd.prog ++ Tryd.f5.resultTypes.toList)) = true := by kernel_rfl
theorem closed : joinedFacts Tryd.prog 5 Tryd.f5 Rows.fnExactBoardTextSpec Rows.fnExactBoardTextRow = true := by
  unfold joinedFacts
  exact Pr.andt (Pr.andt (Pr.andt (Pr.andt (Pr.andt (Pr.andt (Pr.andt (Pr.andt (Pr.andt (Pr.andt (Pr.andt (Pr.andt (Pr.andt (Pr.andt (Pr.andt (Pr.andt (Pr.andt (Pr.andt (Pr.andt (Pr.andt (Pr.andt (Pr.andt (Pr.andt (Pr.andt (Pr.andt (Pr.andt (Pr.andt (Pr.andt (Pr.andt (Pr.andt (Pr.andt (fact0) Pr.laidOut) Pr.rowed) fact3) fact4) fact5) Pr.noStops) fact7) Pr.noKnobs) fact9) fact10) fact11) fact12) fact13) fact14) fact15) fact16) fact17) fact18) fact19) fact20) fact21) fact22) fact23) fact24) Pr.mayEnter) fact26) fact27) fact28) fact29) fact30) fact31
theorem named : Tryd.prog.funcNamed Rows.fnExactBoardTextRow.func = some 5 := by kernel_rfl
theorem inst : Tryd.f5.isInstance Tryd.prog Rows.fnExactBoardTextRow.origin Rows.fnExactBoardTextRow.targs := of_decide_eq_true (by kernel_rfl)
theorem wrap : Tryd.f5.isWrapper Tryd.prog Rows.fnExactBoardTextRow.wrapper Rows.fnExactBoardTextRow.mainSum := by
  unfold Func.isWrapper
  first | (rw [if_pos (by decide +kernel)]; kernel_rfl) | (rw [if_neg (by decide +kernel)]; exact ⟨rfl, rfl⟩)
theorem noInit : Tryd.prog.inits.idxOf? 5 = none := by kernel_rfl
theorem door_met (os : Os) (args : Array Value) : laidMetH Tryd.prog Rows.fnExactBoardTextRow.laid ((World.doorLaid Tryd.prog 72 os).forCall (fun _ _ => 0) ⟨#[], args, []⟩).memory :=
  laidMetH_of_parts3 (fuel := 8) (laidMet_of_run' 8 (by kernel_rfl) (by kernel_rfl)) (by kernel_rfl) (by kernel_rfl)
theorem of_laid {W : World} (h : laidMetH Tryd.prog Rows.fnExactBoardTextRow.laid W) : Lib.TabIs Tryd.prog W "internal/strconv.uint64pow10" .u64 Lib.pow10Tab := by
  rw [MakeChecks.laidMetH_plain _ _ _ (by kernel_rfl)] at h
  exact Lib.tabIs_of_head (g := 5) (t := 127) (e := 100) (n := 20) (by kernel_rfl) (by kernel_rfl) (by kernel_rfl) (by kernel_rfl) (by kernel_rfl) (by kernel_rfl) (laidMet.tail (laidMet.tail h))
theorem lifted (os : Os) (started : os.Started) (H : Type) (enc : TypeId × Value → H) :
    ReturnsInHanded {} Tryd.checked os 5 .any (fun w args => (Rows.fnExactBoardTextSpec.pre enc Tryd.prog Tryd.f5 [] false w args ∧ laidMetH Tryd.prog Rows.fnExactBoardTextRow.laid w) ∧ sizedMet enc Tryd.prog Tryd.f5 (OpenSpec.ofChange Rows.fnExactBoardTextSpec) false w args) (Rows.fnExactBoardTextSpec.post enc Tryd.prog Tryd.f5 false true false false) := by
  refine returnsInHanded_of_change_and (C := Tryd.checked) (X := fun w _ => laidMetH Tryd.prog Rows.fnExactBoardTextRow.laid w) (fun _ _ _ hh h => h.of_heap hh) Pr.ownNone started noInit Tryd.func5
    (ChangeSpec.witness_shaped (enc := enc) (C := Tryd.checked) (os := os) (X := fun w _ => laidMetH Tryd.prog Rows.fnExactBoardTextRow.laid w) false (World.doorLaid Tryd.prog 72 os) #[.agg #[.int .i64 0, .int .i64 0, .int .i64 0, .slice none 0 0]] 8 rfl (World.shaped_of_RefB (by kernel_rfl) (by kernel_rfl)) (by kernel_rfl) (by kernel_rfl) (by kernel_rfl) (door_met os _)) ?_
  intro W base args ds gs before hval0 hW hcnd hsz0 hL _
  have hval : ∀ (j : Nat) t v, Tryd.f5.params[j]? = some t → args[j]? = some v → Value.okWide Tryd.prog W .any base t v := hval0
  have hW' := hW
  obtain ⟨p, q, hA0, hV, rfl, hfz, hnd⟩ := hW
  have hA : DataW.TrodAll enc Tryd.prog W 0 (fun _ => true) true Tryd.f5.params.toList args.toList ds p := hA0
  rw [Tryd.params5] at hA hval
  obtain ⟨v0, vs0, d0, ds0, p0, q0, hargs, rfl, rfl, h0, r0⟩ := trodAll_cons hA
  obtain ⟨rfl, rfl, rfl⟩ := trodAll_nil r0
  obtain rfl : args = #[v0] := by cases args; simp_all
  obtain ⟨rfl, rfl⟩ := trodVars_none hV
  have k0 := h0
  have lt0 : ∀ x ∈ p0, x.block < W.heap.size := by obtain ⟨m, hm⟩ := k0; exact DataW.trod_lt m _ _ _ hm
  obtain ⟨a0_0, a0_1, a0_2, A0_3, c0_3, l0_3, rfl, w0_0, w0_1, w0_2, hr0_3, hc0_3, m0_3, w0_3⟩ := Pr.open_board (hval 0 38 v0 rfl rfl) h0
  clear hA0 hval0 hsz0
  refine (Pr.laws_FnExactBoardText.walk Pure.FnExactBoardText a0_0 a0_1 a0_2 A0_3 c0_3 l0_3 W hr0_3 hc0_3 w0_0 w0_1 w0_2 m0_3 w0_3 (of_laid hL)).mono fun e W' ⟨he, bel⟩ => ?_
  subst he
  exact ⟨_, rfl, _, _, _, [], _, [], hW', trodAll_mk1 (shut_bool Tryd.underlying4 _), (trodAll_cons_mk (Below.trod Pr.laidOut (by as_aux_lemma => kernel_rfl) (of_decide_eq_true (by as_aux_lemma => kernel_rfl)) k0 bel lt0) trodAll_mk0), rfl, bel.frame _, fun h => by cases h⟩
theorem over : Rows.fnExactBoardTextRow.holds Tryd.pinned (OpenSpec.ofChange Rows.fnExactBoardTextSpec) :=
  OpenClaim.holds_of_wide 5 Tryd.f5 rfl rfl rfl rfl rfl rfl rfl ⟨rfl, rfl, rfl, rfl, rfl⟩ rfl rfl rfl rfl rfl named Tryd.func5 closed inst wrap
    (fun os started H enc _ => lifted os started H enc)
theorem carded : Rows.FnExactBoardTextCardSaid :=
  Claim7.holds_tied_plain_at .later [] [.data, .data, .data] true (true, "620307711f7ddb74b9a3abe61fb66e5ac947db6f93958bf8efa6c8a82d1c56e9") true
    over (fun _ h => by cases h) (by kernel_rfl) (fun _ h => by cases h) fnExactBoardText_row_tie rfl ⟨rfl, rfl⟩ (by kernel_rfl) rfl
    (fun f fn hf hfn => by
      obtain rfl : f = 5 := Option.some.inj ((show Tryd.prog.funcNamed Rows.fnExactBoardTextRow.func = some 5 from named).symm.trans hf) |>.symm
      obtain rfl : fn = Tryd.f5 := (Option.some.inj (Tryd.func5.symm.trans hfn)).symm
      exact ⟨by kernel_rfl, fun j t ht => by
        rw [Tryd.params5] at ht
        have hm : t ∈ [38] := by simpa using Array.mem_of_getElem? ht
        have hall : ([38].all fun u => !Tryd.prog.wantsStandIn u) = true := by kernel_rfl
        exact (show Tryd.prog.wantsStandIn t = false by simpa using List.all_eq_true.1 hall t hm)⟩)
    (by kernel_rfl)
theorem proved : Rows.FnExactBoardTextCardSaid := carded
#print axioms proved
end Go.Proofs.YtnbleinhabllnaaDoor.fnExactBoardText
namespace Go.Proofs.YtnbleinhabllnaaDoor
/-- The row, under a short name, for the claim. -/
theorem fnExactBoardText_holds : Rows.FnExactBoardTextCardSaid := fnExactBoardText.proved
end Go.Proofs.YtnbleinhabllnaaDoor
