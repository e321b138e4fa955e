/- The row of the law FnExactPairMoves, out of its Pure and its walk; no condition of its own. -/
import Derived.Test.YteiceakgiilbgaaRows
import Derived.Test.YteiceakgiilbgaaHead
import Derived.Test.YteiceakgiilbgaaOpen
import Derived.Test.YteiceakgiilbgaaSFnExactPairMoves
import Derived.Test.YteiceakgiilbgaaPureFnExactPairMoves
import Derived.WalkKit
import Derived.ProofKit
import Derived.OpenShut
import Derived.ShutString
import Derived.ChangeOld
import Derived.Below
import Derived.SizedLaws
import Derived.JoinedOf
namespace Go.Proofs.Yteiceakgiilbgaa.fnExactPairMoves
open Go.ChangeShapes Go.WideShapes Go.ChangeAt Go.RowKit
open Go.ChangeMaps (open_string shut_string)
set_option linter.unusedVariables false
set_option maxRecDepth 100000
theorem fact0 : (Rows.fnExactPairMovesRow.wf (OpenSpec.ofChange Rows.fnExactPairMovesSpec)) = true := by kernel_rfl
theorem fact3 : (Try.f10.params.all (Try.prog.readableRec ·)) = true := by kernel_rfl
theorem fact4 : (namedTie Try.prog Rows.fnExactPairMovesRow.named Rows.fnExactPairMovesSpec.vars) = true := by kernel_rfl
theorem fact5 : ((Rows.fnExactPairMovesRow.stops == [])) = true := by kernel_rfl
theorem fact7 : ((Rows.fnExactPairMovesRow.knobs == [])) = true := by kernel_rfl
theorem fact9 : ((Rows.fnExactPairMovesRow.inPlace == Try.prog.inPlace 10)) = true := by kernel_rfl
theorem fact10 : ((Rows.fnExactPairMovesRow.unfollowed == Try.prog.unfollowed 10)) = true := by kernel_rfl
theorem fact11 : ((Rows.fnExactPairMovesRow.recurses == Try.prog.recurses 10)) = true := by kernel_rfl
theorem fact12 : ((Rows.fnExactPairMovesRow.named == Try.prog.varsNamed 10)) = true := by kernel_rfl
theorem fact13 : ((Rows.fnExactPairMovesRow.maps == (Try.f10.params.toList ++ Rows.fnExactPairMovesSpec.plain.varTypes Try.prog).any (Try.prog.mapsRec ·))) = true := by kernel_rfl
theorem fact14 : ((Rows.fnExactPairMovesRow.ifaces == (Try.f10.params.toList ++ Rows.fnExactPairMovesSpec.plain.varTypes Try.prog).any (Try.prog.ifacesRec ·))) = true := by kernel_rfl
theorem fact15 : ((Rows.fnExactPairMovesRow.mapsOut == Try.prog.mapsAmong Try.f10.resultTypes.toList)) = true := by kernel_rfl
theorem fact16 : ((Rows.fnExactPairMovesRow.loops == (Try.f10.params.toList ++ Rows.fnExactPairMovesSpec.plain.varTypes Try.prog).any (Try.prog.loopsFrom ·))) = true := by kernel_rfl
theorem fact17 : ((Rows.fnExactPairMovesRow.wideKeys == (Try.f10.params.toList ++ Rows.fnExactPairMovesSpec.plain.varTypes Try.prog ++ Try.f10.resultTypes.toList).any (Try.prog.wideKeysFrom ·))) = true := by kernel_rfl
theorem fact18 : (Rows.fnExactPairMovesSpec.vars.all (Try.prog.varReadable ·)) = true := by kernel_rfl
theorem fact19 : (Try.f10.resultTypes.all (fun t => Try.prog.readableRec t && decide (t < Try.prog.types.size))) = true := by kernel_rfl
theorem fact20 : ((Rows.fnExactPairMovesRow.ifacesOut == Try.f10.resultTypes.toList.any (Try.prog.ifacesRec ·))) = true := by kernel_rfl
theorem fact21 : ((Rows.fnExactPairMovesRow.loopsOut == Try.f10.resultTypes.toList.any (Try.prog.loopsFrom ·))) = true := by kernel_rfl
theorem fact22 : ((Rows.fnExactPairMovesRow.plainKeys == Try.prog.plainKeys)) = true := by kernel_rfl
theorem fact23 : (Rows.fnExactPairMovesRow.shortTexts.isNone) = true := by kernel_rfl
theorem fact24 : (Try.prog.stopsHeard) = true := by kernel_rfl
theorem fact26 : ((Rows.fnExactPairMovesRow.lifted == Try.prog.liftsFinal)) = true := by rw [Pr.notFinal]; kernel_rfl
theorem fact27 : ((Try.prog.make == some Rows.fnExactPairMovesRow.make)) = true := by rw [Pr.madeCut]; kernel_rfl
theorem fact28 : ((Rows.fnExactPairMovesRow.kinds == (if Rows.fnExactPairMovesRow.domain.isEmpty then [] else Try.f10.params.toList.map fun t => match Try.prog.underlying t with | some (.int k) => some k | _ => none))) = true := by kernel_rfl
theorem fact29 : ((Rows.fnExactPairMovesRow.pinned == Rows.fnExactPairMovesRow.pinnedBy)) = true := by kernel_rfl
theorem fact30 : ((Rows.fnExactPairMovesRow.veiled == (Try.f10.params.toList ++ Rows.fnExactPairMovesSpec.plain.varTypes Try.prog ++ Try.f10.resultTypes.toList).any (Try.prog.veiledRec ·))) = true := by kernel_rfl
theorem fact31 : (Rows.fnExactPairMovesRow.veiledFits Try.prog Try.f10.params.toList (Try.f10.params.toList ++ Rows.fnExactPairMovesSpec.plain.varTypes Try.prog ++ Try.f10.resultTypes.toList)) = true := by kernel_rfl
theorem closed : joinedFacts Try.prog 10 Try.f10 Rows.fnExactPairMovesSpec Rows.fnExactPairMovesRow = true := by
  unfold joinedFacts
  exact Pr.andt (Pr.andt (Pr.andt (Pr.andt (Pr.andt (Pr.andt (Pr.andt (Pr.andt (Pr.andt (Pr.andt (Pr.andt (Pr.andt (Pr.andt (Pr.andt (Pr.andt (Pr.andt (Pr.andt (Pr.andt (Pr.andt (Pr.andt (Pr.andt (Pr.andt (Pr.andt (Pr.andt (Pr.andt (Pr.andt (Pr.andt (Pr.andt (Pr.andt (Pr.andt (Pr.andt (fact0) Pr.laidOut) Pr.rowed) fact3) fact4) fact5) Pr.noStops) fact7) Pr.noKnobs) fact9) fact10) fact11) fact12) fact13) fact14) fact15) fact16) fact17) fact18) fact19) fact20) fact21) fact22) fact23) fact24) Pr.mayEnter) fact26) fact27) fact28) fact29) fact30) fact31
theorem named : Try.prog.funcNamed Rows.fnExactPairMovesRow.func = some 10 := by kernel_rfl
theorem inst : Try.f10.isInstance Try.prog Rows.fnExactPairMovesRow.origin Rows.fnExactPairMovesRow.targs := of_decide_eq_true (by kernel_rfl)
theorem wrap : Try.f10.isWrapper Try.prog Rows.fnExactPairMovesRow.wrapper Rows.fnExactPairMovesRow.mainSum := by
  unfold Func.isWrapper
  first | (rw [if_pos (by decide +kernel)]; kernel_rfl) | (rw [if_neg (by decide +kernel)]; exact ⟨rfl, rfl⟩)
theorem noInit : Try.prog.inits.idxOf? 10 = none := by kernel_rfl
theorem lifted (os : Os) (started : os.Started) (H : Type) (enc : TypeId × Value → H) :
    ReturnsInHanded {} Try.checked os 10 .any (Rows.fnExactPairMovesSpec.pre6 enc Try.prog Try.f10 Rows.fnExactPairMovesRow.domain false) (Rows.fnExactPairMovesSpec.post enc Try.prog Try.f10 false true false false) := by
  refine returnsInHanded_of_change_sized (C := Try.checked) Pr.ownNone started noInit Try.func10
    (ChangeSpec.witness6 (enc := enc) (C := Try.checked) false ⟨#[], #[.int .i64 0, .int .i64 0, .int .i64 0, .int .i64 0, .int .i64 0], []⟩ 8 (by as_aux_lemma => kernel_rfl) (by as_aux_lemma => kernel_rfl) (by as_aux_lemma => kernel_rfl) (by as_aux_lemma => kernel_rfl)) ?_
  intro W base args ds gs before hval0 hW hcnd hsz0 _
  have hval : ∀ (j : Nat) t v, Try.f10.params[j]? = some t → args[j]? = some v → Value.okWide Try.prog W .any base t v := hval0
  have hW' := hW
  obtain ⟨p, q, hA0, hV, rfl, hfz, hnd⟩ := hW
  have hA : DataW.TrodAll enc Try.prog W 0 (fun _ => true) true Try.f10.params.toList args.toList ds p := hA0
  rw [Try.params10] at hA hval
  obtain ⟨v0, vs0, d0, ds0, p0, q0, hargs, rfl, rfl, h0, r0⟩ := trodAll_cons hA
  obtain ⟨v1, vs1, d1, ds1, p1, q1, rfl, rfl, rfl, h1, r1⟩ := trodAll_cons r0
  obtain ⟨v2, vs2, d2, ds2, p2, q2, rfl, rfl, rfl, h2, r2⟩ := trodAll_cons r1
  obtain ⟨v3, vs3, d3, ds3, p3, q3, rfl, rfl, rfl, h3, r3⟩ := trodAll_cons r2
  obtain ⟨v4, vs4, d4, ds4, p4, q4, rfl, rfl, rfl, h4, r4⟩ := trodAll_cons r3
  obtain ⟨rfl, rfl, rfl⟩ := trodAll_nil r4
  obtain rfl : args = #[v0, v1, v2, v3, v4] := by cases args; simp_all
  obtain ⟨rfl, rfl⟩ := trodVars_none hV
  obtain ⟨a0, rfl, rfl, rfl, w0⟩ := open_int Try.underlying3 (hval 0 3 v0 rfl rfl) h0
  obtain ⟨a1, rfl, rfl, rfl, w1⟩ := open_int Try.underlying3 (hval 1 3 v1 rfl rfl) h1
  obtain ⟨a2, rfl, rfl, rfl, w2⟩ := open_int Try.underlying3 (hval 2 3 v2 rfl rfl) h2
  obtain ⟨a3, rfl, rfl, rfl, w3⟩ := open_int Try.underlying3 (hval 3 3 v3 rfl rfl) h3
  obtain ⟨a4, rfl, rfl, rfl, w4⟩ := open_int Try.underlying3 (hval 4 3 v4 rfl rfl) h4
  clear hA0 hval0 hsz0
  refine (Pr.laws_FnExactPairMoves.walk Pure.FnExactPairMoves a0 a1 a2 a3 a4 W w0 w1 w2 w3 w4).mono fun e W' ⟨he, bel⟩ => ?_
  subst he
  exact ⟨_, rfl, _, _, _, [], _, [], hW', trodAll_mk1 (shut_bool Try.underlying4 _), (trodAll_cons_mk (shut_int Try.underlying3 w0) (trodAll_cons_mk (shut_int Try.underlying3 w1) (trodAll_cons_mk (shut_int Try.underlying3 w2) (trodAll_cons_mk (shut_int Try.underlying3 w3) (trodAll_cons_mk (shut_int Try.underlying3 w4) trodAll_mk0))))), rfl, bel.frame _, fun h => by cases h⟩
theorem over : Rows.fnExactPairMovesRow.holds Try.pinned (OpenSpec.ofChange Rows.fnExactPairMovesSpec) :=
  OpenClaim.holds_of_wide 10 Try.f10 rfl rfl rfl rfl rfl rfl rfl ⟨rfl, rfl, rfl, rfl, rfl⟩ rfl rfl rfl rfl rfl named Try.func10 closed inst wrap
    (fun os started H enc _ => lifted os started H enc)
theorem proved : Rows.FnExactPairMovesSaid := over
#print axioms proved
end Go.Proofs.Yteiceakgiilbgaa.fnExactPairMoves
namespace Go.Proofs.Yteiceakgiilbgaa
/-- The row, under a short name, for the claim. -/
theorem fnExactPairMoves_holds : Rows.FnExactPairMovesSaid := fnExactPairMoves.proved
end Go.Proofs.Yteiceakgiilbgaa
