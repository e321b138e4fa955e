/- The row of the law FnExactWaysOfSum, out of its Pure and its walk; no condition of its own. -/
import Derived.Test.YteiceakgiilbgaaRows
import Derived.Test.YteiceakgiilbgaaHead
import Derived.Test.YteiceakgiilbgaaOpen
import Derived.Test.YteiceakgiilbgaaSFnExactWaysOfSum
import Derived.Test.YteiceakgiilbgaaPureFnExactWaysOfSum
import Derived.WalkKit
import Derived.ProofKit
import Derived.OpenShut
import Derived.ShutString
import Derived.ChangeOld
import Derived.Below
import Derived.SizedLaws
import Derived.JoinedOf
namespace Go.Proofs.Yteiceakgiilbgaa.fnExactWaysOfSum
open Go.ChangeShapes Go.WideShapes Go.ChangeAt Go.RowKit
open Go.ChangeMaps (open_string shut_string)
set_option linter.unusedVariables false
set_option maxRecDepth 100000
theorem fact0 : (Rows.fnExactWaysOfSumRow.wf (OpenSpec.ofChange Rows.fnExactWaysOfSumSpec)) = true := by kernel_rfl
theorem fact3 : (Try.f13.params.all (Try.prog.readableRec ·)) = true := by kernel_rfl
theorem fact4 : (namedTie Try.prog Rows.fnExactWaysOfSumRow.named Rows.fnExactWaysOfSumSpec.vars) = true := by kernel_rfl
theorem fact5 : ((Rows.fnExactWaysOfSumRow.stops == [])) = true := by kernel_rfl
theorem fact7 : ((Rows.fnExactWaysOfSumRow.knobs == [])) = true := by kernel_rfl
theorem fact9 : ((Rows.fnExactWaysOfSumRow.inPlace == Try.prog.inPlace 13)) = true := by kernel_rfl
theorem fact10 : ((Rows.fnExactWaysOfSumRow.unfollowed == Try.prog.unfollowed 13)) = true := by kernel_rfl
theorem fact11 : ((Rows.fnExactWaysOfSumRow.recurses == Try.prog.recurses 13)) = true := by kernel_rfl
theorem fact12 : ((Rows.fnExactWaysOfSumRow.named == Try.prog.varsNamed 13)) = true := by kernel_rfl
theorem fact13 : ((Rows.fnExactWaysOfSumRow.maps == (Try.f13.params.toList ++ Rows.fnExactWaysOfSumSpec.plain.varTypes Try.prog).any (Try.prog.mapsRec ·))) = true := by kernel_rfl
theorem fact14 : ((Rows.fnExactWaysOfSumRow.ifaces == (Try.f13.params.toList ++ Rows.fnExactWaysOfSumSpec.plain.varTypes Try.prog).any (Try.prog.ifacesRec ·))) = true := by kernel_rfl
theorem fact15 : ((Rows.fnExactWaysOfSumRow.mapsOut == Try.prog.mapsAmong Try.f13.resultTypes.toList)) = true := by kernel_rfl
theorem fact16 : ((Rows.fnExactWaysOfSumRow.loops == (Try.f13.params.toList ++ Rows.fnExactWaysOfSumSpec.plain.varTypes Try.prog).any (Try.prog.loopsFrom ·))) = true := by kernel_rfl
theorem fact17 : ((Rows.fnExactWaysOfSumRow.wideKeys == (Try.f13.params.toList ++ Rows.fnExactWaysOfSumSpec.plain.varTypes Try.prog ++ Try.f13.resultTypes.toList).any (Try.prog.wideKeysFrom ·))) = true := by kernel_rfl
theorem fact18 : (Rows.fnExactWaysOfSumSpec.vars.all (Try.prog.varReadable ·)) = true := by kernel_rfl
theorem fact19 : (Try.f13.resultTypes.all (fun t => Try.prog.readableRec t && decide (t < Try.prog.types.size))) = true := by kernel_rfl
theorem fact20 : ((Rows.fnExactWaysOfSumRow.ifacesOut == Try.f13.resultTypes.toList.any (Try.prog.ifacesRec ·))) = true := by kernel_rfl
theorem fact21 : ((Rows.fnExactWaysOfSumRow.loopsOut == Try.f13.resultTypes.toList.any (Try.prog.loopsFrom ·))) = true := by kernel_rfl
theorem fact22 : ((Rows.fnExactWaysOfSumRow.plainKeys == Try.prog.plainKeys)) = true := by kernel_rfl
theorem fact23 : (Rows.fnExactWaysOfSumRow.shortTexts.isNone) = true := by kernel_rfl
theorem fact24 : (Try.prog.stopsHeard) = true := by kernel_rfl
theorem fact26 : ((Rows.fnExactWaysOfSumRow.lifted == Try.prog.liftsFinal)) = true := by rw [Pr.notFinal]; kernel_rfl
theorem fact27 : ((Try.prog.make == some Rows.fnExactWaysOfSumRow.make)) = true := by rw [Pr.madeCut]; kernel_rfl
theorem fact28 : ((Rows.fnExactWaysOfSumRow.kinds == (if Rows.fnExactWaysOfSumRow.domain.isEmpty then [] else Try.f13.params.toList.map fun t => match Try.prog.underlying t with | some (.int k) => some k | _ => none))) = true := by kernel_rfl
theorem fact29 : ((Rows.fnExactWaysOfSumRow.pinned == Rows.fnExactWaysOfSumRow.pinnedBy)) = true := by kernel_rfl
theorem fact30 : ((Rows.fnExactWaysOfSumRow.veiled == (Try.f13.params.toList ++ Rows.fnExactWaysOfSumSpec.plain.varTypes Try.prog ++ Try.f13.resultTypes.toList).any (Try.prog.veiledRec ·))) = true := by kernel_rfl
theorem fact31 : (Rows.fnExactWaysOfSumRow.veiledFits Try.prog Try.f13.params.toList (Try.f13.params.toList ++ Rows.fnExactWaysOfSumSpec.plain.varTypes Try.prog ++ Try.f13.resultTypes.toList)) = true := by kernel_rfl
theorem closed : joinedFacts Try.prog 13 Try.f13 Rows.fnExactWaysOfSumSpec Rows.fnExactWaysOfSumRow = true := by
  unfold joinedFacts
  exact Pr.andt (Pr.andt (Pr.andt (Pr.andt (Pr.andt (Pr.andt (Pr.andt (Pr.andt (Pr.andt (Pr.andt (Pr.andt (Pr.andt (Pr.andt (Pr.andt (Pr.andt (Pr.andt (Pr.andt (Pr.andt (Pr.andt (Pr.andt (Pr.andt (Pr.andt (Pr.andt (Pr.andt (Pr.andt (Pr.andt (Pr.andt (Pr.andt (Pr.andt (Pr.andt (Pr.andt (fact0) Pr.laidOut) Pr.rowed) fact3) fact4) fact5) Pr.noStops) fact7) Pr.noKnobs) fact9) fact10) fact11) fact12) fact13) fact14) fact15) fact16) fact17) fact18) fact19) fact20) fact21) fact22) fact23) fact24) Pr.mayEnter) fact26) fact27) fact28) fact29) fact30) fact31
theorem named : Try.prog.funcNamed Rows.fnExactWaysOfSumRow.func = some 13 := by kernel_rfl
theorem inst : Try.f13.isInstance Try.prog Rows.fnExactWaysOfSumRow.origin Rows.fnExactWaysOfSumRow.targs := of_decide_eq_true (by kernel_rfl)
theorem wrap : Try.f13.isWrapper Try.prog Rows.fnExactWaysOfSumRow.wrapper Rows.fnExactWaysOfSumRow.mainSum := by
  unfold Func.isWrapper
  first | (rw [if_pos (by decide +kernel)]; kernel_rfl) | (rw [if_neg (by decide +kernel)]; exact ⟨rfl, rfl⟩)
theorem noInit : Try.prog.inits.idxOf? 13 = none := by kernel_rfl
theorem lifted (os : Os) (started : os.Started) (H : Type) (enc : TypeId × Value → H) :
    ReturnsInHanded {} Try.checked os 13 .any (Rows.fnExactWaysOfSumSpec.pre6 enc Try.prog Try.f13 Rows.fnExactWaysOfSumRow.domain false) (Rows.fnExactWaysOfSumSpec.post enc Try.prog Try.f13 false true false false) := by
  refine returnsInHanded_of_change_sized (C := Try.checked) Pr.ownNone started noInit Try.func13
    (ChangeSpec.witness6 (enc := enc) (C := Try.checked) false ⟨#[], #[.int .i64 0, .int .i64 0, .int .i64 0], []⟩ 8 (by as_aux_lemma => kernel_rfl) (by as_aux_lemma => kernel_rfl) (by as_aux_lemma => kernel_rfl) (by as_aux_lemma => kernel_rfl)) ?_
  intro W base args ds gs before hval0 hW hcnd hsz0 _
  have hval : ∀ (j : Nat) t v, Try.f13.params[j]? = some t → args[j]? = some v → Value.okWide Try.prog W .any base t v := hval0
  have hW' := hW
  obtain ⟨p, q, hA0, hV, rfl, hfz, hnd⟩ := hW
  have hA : DataW.TrodAll enc Try.prog W 0 (fun _ => true) true Try.f13.params.toList args.toList ds p := hA0
  rw [Try.params13] at hA hval
  obtain ⟨v0, vs0, d0, ds0, p0, q0, hargs, rfl, rfl, h0, r0⟩ := trodAll_cons hA
  obtain ⟨v1, vs1, d1, ds1, p1, q1, rfl, rfl, rfl, h1, r1⟩ := trodAll_cons r0
  obtain ⟨v2, vs2, d2, ds2, p2, q2, rfl, rfl, rfl, h2, r2⟩ := trodAll_cons r1
  obtain ⟨rfl, rfl, rfl⟩ := trodAll_nil r2
  obtain rfl : args = #[v0, v1, v2] := by cases args; simp_all
  obtain ⟨rfl, rfl⟩ := trodVars_none hV
  obtain ⟨a0, rfl, rfl, rfl, w0⟩ := open_int Try.underlying3 (hval 0 3 v0 rfl rfl) h0
  obtain ⟨a1, rfl, rfl, rfl, w1⟩ := open_int Try.underlying3 (hval 1 3 v1 rfl rfl) h1
  obtain ⟨a2, rfl, rfl, rfl, w2⟩ := open_int Try.underlying3 (hval 2 3 v2 rfl rfl) h2
  clear hA0 hval0 hsz0
  refine (Pr.laws_FnExactWaysOfSum.walk Pure.FnExactWaysOfSum a0 a1 a2 W w0 w1 w2).mono fun e W' ⟨he, bel⟩ => ?_
  subst he
  exact ⟨_, rfl, _, _, _, [], _, [], hW', trodAll_mk1 (shut_bool Try.underlying4 _), (trodAll_cons_mk (shut_int Try.underlying3 w0) (trodAll_cons_mk (shut_int Try.underlying3 w1) (trodAll_cons_mk (shut_int Try.underlying3 w2) trodAll_mk0))), rfl, bel.frame _, fun h => by cases h⟩
theorem over : Rows.fnExactWaysOfSumRow.holds Try.pinned (OpenSpec.ofChange Rows.fnExactWaysOfSumSpec) :=
  OpenClaim.holds_of_wide 13 Try.f13 rfl rfl rfl rfl rfl rfl rfl ⟨rfl, rfl, rfl, rfl, rfl⟩ rfl rfl rfl rfl rfl named Try.func13 closed inst wrap
    (fun os started H enc _ => lifted os started H enc)
theorem proved : Rows.FnExactWaysOfSumSaid := over
#print axioms proved
end Go.Proofs.Yteiceakgiilbgaa.fnExactWaysOfSum
namespace Go.Proofs.Yteiceakgiilbgaa
/-- The row, under a short name, for the claim. -/
theorem fnExactWaysOfSum_holds : Rows.FnExactWaysOfSumSaid := fnExactWaysOfSum.proved
end Go.Proofs.Yteiceakgiilbgaa
