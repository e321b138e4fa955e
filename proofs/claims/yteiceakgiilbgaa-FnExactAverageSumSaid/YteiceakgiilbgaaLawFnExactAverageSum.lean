/- The row of the law FnExactAverageSum, out of its Pure and its walk; no condition of its own. -/
import Derived.Test.YteiceakgiilbgaaRows
import Derived.Test.YteiceakgiilbgaaHead
import Derived.Test.YteiceakgiilbgaaOpen
import Derived.Test.YteiceakgiilbgaaSFnExactAverageSum
import Derived.Test.YteiceakgiilbgaaPureFnExactAverageSum
import Derived.WalkKit
import Derived.ProofKit
import Derived.OpenShut
import Derived.ShutString
import Derived.ChangeOld
import Derived.Below
import Derived.SizedLaws
import Derived.JoinedOf
namespace Go.Proofs.Yteiceakgiilbgaa.fnExactAverageSum
open Go.ChangeShapes Go.WideShapes Go.ChangeAt Go.RowKit
open Go.ChangeMaps (open_string shut_string)
set_option linter.unusedVariables false
set_option maxRecDepth 100000
theorem fact0 : (Rows.fnExactAverageSumRow.wf (OpenSpec.ofChange Rows.fnExactAverageSumSpec)) = true := by kernel_rfl
theorem fact3 : (Try.f14.params.all (Try.prog.readableRec ·)) = true := by kernel_rfl
theorem fact4 : (namedTie Try.prog Rows.fnExactAverageSumRow.named Rows.fnExactAverageSumSpec.vars) = true := by kernel_rfl
theorem fact5 : ((Rows.fnExactAverageSumRow.stops == [])) = true := by kernel_rfl
theorem fact7 : ((Rows.fnExactAverageSumRow.knobs == [])) = true := by kernel_rfl
theorem fact9 : ((Rows.fnExactAverageSumRow.inPlace == Try.prog.inPlace 14)) = true := by kernel_rfl
theorem fact10 : ((Rows.fnExactAverageSumRow.unfollowed == Try.prog.unfollowed 14)) = true := by kernel_rfl
theorem fact11 : ((Rows.fnExactAverageSumRow.recurses == Try.prog.recurses 14)) = true := by kernel_rfl
theorem fact12 : ((Rows.fnExactAverageSumRow.named == Try.prog.varsNamed 14)) = true := by kernel_rfl
theorem fact13 : ((Rows.fnExactAverageSumRow.maps == (Try.f14.params.toList ++ Rows.fnExactAverageSumSpec.plain.varTypes Try.prog).any (Try.prog.mapsRec ·))) = true := by kernel_rfl
theorem fact14 : ((Rows.fnExactAverageSumRow.ifaces == (Try.f14.params.toList ++ Rows.fnExactAverageSumSpec.plain.varTypes Try.prog).any (Try.prog.ifacesRec ·))) = true := by kernel_rfl
theorem fact15 : ((Rows.fnExactAverageSumRow.mapsOut == Try.prog.mapsAmong Try.f14.resultTypes.toList)) = true := by kernel_rfl
theorem fact16 : ((Rows.fnExactAverageSumRow.loops == (Try.f14.params.toList ++ Rows.fnExactAverageSumSpec.plain.varTypes Try.prog).any (Try.prog.loopsFrom ·))) = true := by kernel_rfl
theorem fact17 : ((Rows.fnExactAverageSumRow.wideKeys == (Try.f14.params.toList ++ Rows.fnExactAverageSumSpec.plain.varTypes Try.prog ++ Try.f14.resultTypes.toList).any (Try.prog.wideKeysFrom ·))) = true := by kernel_rfl
theorem fact18 : (Rows.fnExactAverageSumSpec.vars.all (Try.prog.varReadable ·)) = true := by kernel_rfl
theorem fact19 : (Try.f14.resultTypes.all (fun t => Try.prog.readableRec t && decide (t < Try.prog.types.size))) = true := by kernel_rfl
theorem fact20 : ((Rows.fnExactAverageSumRow.ifacesOut == Try.f14.resultTypes.toList.any (Try.prog.ifacesRec ·))) = true := by kernel_rfl
theorem fact21 : ((Rows.fnExactAverageSumRow.loopsOut == Try.f14.resultTypes.toList.any (Try.prog.loopsFrom ·))) = true := by kernel_rfl
theorem fact22 : ((Rows.fnExactAverageSumRow.plainKeys == Try.prog.plainKeys)) = true := by kernel_rfl
theorem fact23 : (Rows.fnExactAverageSumRow.shortTexts.isNone) = true := by kernel_rfl
theorem fact24 : (Try.prog.stopsHeard) = true := by kernel_rfl
theorem fact26 : ((Rows.fnExactAverageSumRow.lifted == Try.prog.liftsFinal)) = true := by rw [Pr.notFinal]; kernel_rfl
theorem fact27 : ((Try.prog.make == some Rows.fnExactAverageSumRow.make)) = true := by rw [Pr.madeCut]; kernel_rfl
theorem fact28 : ((Rows.fnExactAverageSumRow.kinds == (if Rows.fnExactAverageSumRow.domain.isEmpty then [] else Try.f14.params.toList.map fun t => match Try.prog.underlying t with | some (.int k) => some k | _ => none))) = true := by kernel_rfl
theorem fact29 : ((Rows.fnExactAverageSumRow.pinned == Rows.fnExactAverageSumRow.pinnedBy)) = true := by kernel_rfl
theorem fact30 : ((Rows.fnExactAverageSumRow.veiled == (Try.f14.params.toList ++ Rows.fnExactAverageSumSpec.plain.varTypes Try.prog ++ Try.f14.resultTypes.toList).any (Try.prog.veiledRec ·))) = true := by kernel_rfl
theorem fact31 : (Rows.fnExactAverageSumRow.veiledFits Try.prog Try.f14.params.toList (Try.f14.params.toList ++ Rows.fnExactAverageSumSpec.plain.varTypes Try.prog ++ Try.f14.resultTypes.toList)) = true := by kernel_rfl
theorem closed : joinedFacts Try.prog 14 Try.f14 Rows.fnExactAverageSumSpec Rows.fnExactAverageSumRow = true := by
  unfold joinedFacts
  exact Pr.andt (Pr.andt (Pr.andt (Pr.andt (Pr.andt (Pr.andt (Pr.andt (Pr.andt (Pr.andt (Pr.andt (Pr.andt (Pr.andt (Pr.andt (Pr.andt (Pr.andt (Pr.andt (Pr.andt (Pr.andt (Pr.andt (Pr.andt (Pr.andt (Pr.andt (Pr.andt (Pr.andt (Pr.andt (Pr.andt (Pr.andt (Pr.andt (Pr.andt (Pr.andt (Pr.andt (fact0) Pr.laidOut) Pr.rowed) fact3) fact4) fact5) Pr.noStops) fact7) Pr.noKnobs) fact9) fact10) fact11) fact12) fact13) fact14) fact15) fact16) fact17) fact18) fact19) fact20) fact21) fact22) fact23) fact24) Pr.mayEnter) fact26) fact27) fact28) fact29) fact30) fact31
theorem named : Try.prog.funcNamed Rows.fnExactAverageSumRow.func = some 14 := by kernel_rfl
theorem inst : Try.f14.isInstance Try.prog Rows.fnExactAverageSumRow.origin Rows.fnExactAverageSumRow.targs := of_decide_eq_true (by kernel_rfl)
theorem wrap : Try.f14.isWrapper Try.prog Rows.fnExactAverageSumRow.wrapper Rows.fnExactAverageSumRow.mainSum := by
  unfold Func.isWrapper
  first | (rw [if_pos (by decide +kernel)]; kernel_rfl) | (rw [if_neg (by decide +kernel)]; exact ⟨rfl, rfl⟩)
theorem noInit : Try.prog.inits.idxOf? 14 = none := by kernel_rfl
theorem lifted (os : Os) (started : os.Started) (H : Type) (enc : TypeId × Value → H) :
    ReturnsInHanded {} Try.checked os 14 .any (Rows.fnExactAverageSumSpec.pre6 enc Try.prog Try.f14 Rows.fnExactAverageSumRow.domain false) (Rows.fnExactAverageSumSpec.post enc Try.prog Try.f14 false true false false) := by
  refine returnsInHanded_of_change_sized (C := Try.checked) Pr.ownNone started noInit Try.func14
    (ChangeSpec.witness6 (enc := enc) (C := Try.checked) false ⟨#[], #[.int .i64 0, .int .i64 0], []⟩ 8 (by as_aux_lemma => kernel_rfl) (by as_aux_lemma => kernel_rfl) (by as_aux_lemma => kernel_rfl) (by as_aux_lemma => kernel_rfl)) ?_
  intro W base args ds gs before hval0 hW hcnd hsz0 _
  have hval : ∀ (j : Nat) t v, Try.f14.params[j]? = some t → args[j]? = some v → Value.okWide Try.prog W .any base t v := hval0
  have hW' := hW
  obtain ⟨p, q, hA0, hV, rfl, hfz, hnd⟩ := hW
  have hA : DataW.TrodAll enc Try.prog W 0 (fun _ => true) true Try.f14.params.toList args.toList ds p := hA0
  rw [Try.params14] at hA hval
  obtain ⟨v0, vs0, d0, ds0, p0, q0, hargs, rfl, rfl, h0, r0⟩ := trodAll_cons hA
  obtain ⟨v1, vs1, d1, ds1, p1, q1, rfl, rfl, rfl, h1, r1⟩ := trodAll_cons r0
  obtain ⟨rfl, rfl, rfl⟩ := trodAll_nil r1
  obtain rfl : args = #[v0, v1] := by cases args; simp_all
  obtain ⟨rfl, rfl⟩ := trodVars_none hV
  obtain ⟨a0, rfl, rfl, rfl, w0⟩ := open_int Try.underlying3 (hval 0 3 v0 rfl rfl) h0
  obtain ⟨a1, rfl, rfl, rfl, w1⟩ := open_int Try.underlying3 (hval 1 3 v1 rfl rfl) h1
  clear hA0 hval0 hsz0
  refine (Pr.laws_FnExactAverageSum.walk Pure.FnExactAverageSum a0 a1 W w0 w1).mono fun e W' ⟨he, bel⟩ => ?_
  subst he
  exact ⟨_, rfl, _, _, _, [], _, [], hW', trodAll_mk1 (shut_bool Try.underlying4 _), (trodAll_cons_mk (shut_int Try.underlying3 w0) (trodAll_cons_mk (shut_int Try.underlying3 w1) trodAll_mk0)), rfl, bel.frame _, fun h => by cases h⟩
theorem over : Rows.fnExactAverageSumRow.holds Try.pinned (OpenSpec.ofChange Rows.fnExactAverageSumSpec) :=
  OpenClaim.holds_of_wide 14 Try.f14 rfl rfl rfl rfl rfl rfl rfl ⟨rfl, rfl, rfl, rfl, rfl⟩ rfl rfl rfl rfl rfl named Try.func14 closed inst wrap
    (fun os started H enc _ => lifted os started H enc)
theorem proved : Rows.FnExactAverageSumSaid := over
#print axioms proved
end Go.Proofs.Yteiceakgiilbgaa.fnExactAverageSum
namespace Go.Proofs.Yteiceakgiilbgaa
/-- The row, under a short name, for the claim. -/
theorem fnExactAverageSum_holds : Rows.FnExactAverageSumSaid := fnExactAverageSum.proved
end Go.Proofs.Yteiceakgiilbgaa
