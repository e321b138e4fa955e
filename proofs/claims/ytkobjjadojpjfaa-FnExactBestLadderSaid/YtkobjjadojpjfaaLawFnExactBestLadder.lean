/- The row of the law FnExactBestLadder, out of its Pure and its walk; no condition of its own. -/
import Derived.Test.YtkobjjadojpjfaaRows
import Derived.Test.YtkobjjadojpjfaaHead
import Derived.Test.YtkobjjadojpjfaaOpen
import Derived.Test.YtkobjjadojpjfaaSFnExactBestLadder
import Derived.Test.YtkobjjadojpjfaaPureFnExactBestLadder
import Derived.WalkKit
import Derived.ProofKit
import Derived.OpenShut
import Derived.ShutString
import Derived.ChangeOld
import Derived.Below
import Derived.SizedLaws
import Derived.JoinedOf
namespace Go.Proofs.Ytkobjjadojpjfaa.fnExactBestLadder
open Go.ChangeShapes Go.WideShapes Go.ChangeAt Go.RowKit
open Go.ChangeMaps (open_string shut_string)
set_option linter.unusedVariables false
set_option maxRecDepth 100000
theorem fact0 : (Rows.fnExactBestLadderRow.wf (OpenSpec.ofChange Rows.fnExactBestLadderSpec)) = true := by kernel_rfl
theorem fact3 : (Try.f3.params.all (Try.prog.readableRec ·)) = true := by kernel_rfl
theorem fact4 : (namedTie Try.prog Rows.fnExactBestLadderRow.named Rows.fnExactBestLadderSpec.vars) = true := by kernel_rfl
theorem fact5 : ((Rows.fnExactBestLadderRow.stops == [])) = true := by kernel_rfl
theorem fact7 : ((Rows.fnExactBestLadderRow.knobs == [])) = true := by kernel_rfl
theorem fact9 : ((Rows.fnExactBestLadderRow.inPlace == Try.prog.inPlace 3)) = true := by kernel_rfl
theorem fact10 : ((Rows.fnExactBestLadderRow.unfollowed == Try.prog.unfollowed 3)) = true := by kernel_rfl
theorem fact11 : ((Rows.fnExactBestLadderRow.recurses == Try.prog.recurses 3)) = true := by kernel_rfl
theorem fact12 : ((Rows.fnExactBestLadderRow.named == Try.prog.varsNamed 3)) = true := by kernel_rfl
theorem fact13 : ((Rows.fnExactBestLadderRow.maps == (Try.f3.params.toList ++ Rows.fnExactBestLadderSpec.plain.varTypes Try.prog).any (Try.prog.mapsRec ·))) = true := by kernel_rfl
theorem fact14 : ((Rows.fnExactBestLadderRow.ifaces == (Try.f3.params.toList ++ Rows.fnExactBestLadderSpec.plain.varTypes Try.prog).any (Try.prog.ifacesRec ·))) = true := by kernel_rfl
theorem fact15 : ((Rows.fnExactBestLadderRow.mapsOut == Try.prog.mapsAmong Try.f3.resultTypes.toList)) = true := by kernel_rfl
theorem fact16 : ((Rows.fnExactBestLadderRow.loops == (Try.f3.params.toList ++ Rows.fnExactBestLadderSpec.plain.varTypes Try.prog).any (Try.prog.loopsFrom ·))) = true := by kernel_rfl
theorem fact17 : ((Rows.fnExactBestLadderRow.wideKeys == (Try.f3.params.toList ++ Rows.fnExactBestLadderSpec.plain.varTypes Try.prog ++ Try.f3.resultTypes.toList).any (Try.prog.wideKeysFrom ·))) = true := by kernel_rfl
theorem fact18 : (Rows.fnExactBestLadderSpec.vars.all (Try.prog.varReadable ·)) = true := by kernel_rfl
theorem fact19 : (Try.f3.resultTypes.all (fun t => Try.prog.readableRec t && decide (t < Try.prog.types.size))) = true := by kernel_rfl
theorem fact20 : ((Rows.fnExactBestLadderRow.ifacesOut == Try.f3.resultTypes.toList.any (Try.prog.ifacesRec ·))) = true := by kernel_rfl
theorem fact21 : ((Rows.fnExactBestLadderRow.loopsOut == Try.f3.resultTypes.toList.any (Try.prog.loopsFrom ·))) = true := by kernel_rfl
theorem fact22 : ((Rows.fnExactBestLadderRow.plainKeys == Try.prog.plainKeys)) = true := by kernel_rfl
theorem fact23 : (Rows.fnExactBestLadderRow.shortTexts.isNone) = true := by kernel_rfl
theorem fact24 : (Try.prog.stopsHeard) = true := by kernel_rfl
theorem fact26 : ((Rows.fnExactBestLadderRow.lifted == Try.prog.liftsFinal)) = true := by rw [Pr.notFinal]; kernel_rfl
theorem fact27 : ((Try.prog.make == some Rows.fnExactBestLadderRow.make)) = true := by rw [Pr.madeCut]; kernel_rfl
theorem fact28 : ((Rows.fnExactBestLadderRow.kinds == (if Rows.fnExactBestLadderRow.domain.isEmpty then [] else Try.f3.params.toList.map fun t => match Try.prog.underlying t with | some (.int k) => some k | _ => none))) = true := by kernel_rfl
theorem fact29 : ((Rows.fnExactBestLadderRow.pinned == Rows.fnExactBestLadderRow.pinnedBy)) = true := by kernel_rfl
theorem fact30 : ((Rows.fnExactBestLadderRow.veiled == (Try.f3.params.toList ++ Rows.fnExactBestLadderSpec.plain.varTypes Try.prog ++ Try.f3.resultTypes.toList).any (Try.prog.veiledRec ·))) = true := by kernel_rfl
theorem fact31 : (Rows.fnExactBestLadderRow.veiledFits Try.prog Try.f3.params.toList (Try.f3.params.toList ++ Rows.fnExactBestLadderSpec.plain.varTypes Try.prog ++ Try.f3.resultTypes.toList)) = true := by kernel_rfl
theorem closed : joinedFacts Try.prog 3 Try.f3 Rows.fnExactBestLadderSpec Rows.fnExactBestLadderRow = true := by
  unfold joinedFacts
  exact Pr.andt (Pr.andt (Pr.andt (Pr.andt (Pr.andt (Pr.andt (Pr.andt (Pr.andt (Pr.andt (Pr.andt (Pr.andt (Pr.andt (Pr.andt (Pr.andt (Pr.andt (Pr.andt (Pr.andt (Pr.andt (Pr.andt (Pr.andt (Pr.andt (Pr.andt (Pr.andt (Pr.andt (Pr.andt (Pr.andt (Pr.andt (Pr.andt (Pr.andt (Pr.andt (Pr.andt (fact0) Pr.laidOut) Pr.rowed) fact3) fact4) fact5) Pr.noStops) fact7) Pr.noKnobs) fact9) fact10) fact11) fact12) fact13) fact14) fact15) fact16) fact17) fact18) fact19) fact20) fact21) fact22) fact23) fact24) Pr.mayEnter) fact26) fact27) fact28) fact29) fact30) fact31
theorem named : Try.prog.funcNamed Rows.fnExactBestLadderRow.func = some 3 := by kernel_rfl
theorem inst : Try.f3.isInstance Try.prog Rows.fnExactBestLadderRow.origin Rows.fnExactBestLadderRow.targs := of_decide_eq_true (by kernel_rfl)
theorem wrap : Try.f3.isWrapper Try.prog Rows.fnExactBestLadderRow.wrapper Rows.fnExactBestLadderRow.mainSum := by
  unfold Func.isWrapper
  first | (rw [if_pos (by decide +kernel)]; kernel_rfl) | (rw [if_neg (by decide +kernel)]; exact ⟨rfl, rfl⟩)
theorem noInit : Try.prog.inits.idxOf? 3 = none := by kernel_rfl
theorem lifted (os : Os) (started : os.Started) (H : Type) (enc : TypeId × Value → H) :
    ReturnsInHanded {} Try.checked os 3 .any (Rows.fnExactBestLadderSpec.pre6 enc Try.prog Try.f3 Rows.fnExactBestLadderRow.domain false) (Rows.fnExactBestLadderSpec.post enc Try.prog Try.f3 false true false false) := by
  refine returnsInHanded_of_change_sized (C := Try.checked) Pr.ownNone started noInit Try.func3
    (ChangeSpec.witness6 (enc := enc) (C := Try.checked) false ⟨#[], #[.agg #[.int .i64 0, .int .i64 0, .int .i64 0, .slice none 0 0]], []⟩ 8 (by as_aux_lemma => kernel_rfl) (by as_aux_lemma => kernel_rfl) (by as_aux_lemma => kernel_rfl) (by as_aux_lemma => kernel_rfl)) ?_
  intro W base args ds gs before hval0 hW hcnd hsz0 _
  have hval : ∀ (j : Nat) t v, Try.f3.params[j]? = some t → args[j]? = some v → Value.okWide Try.prog W .any base t v := hval0
  have hW' := hW
  obtain ⟨p, q, hA0, hV, rfl, hfz, hnd⟩ := hW
  have hA : DataW.TrodAll enc Try.prog W 0 (fun _ => true) true Try.f3.params.toList args.toList ds p := hA0
  rw [Try.params3] at hA hval
  obtain ⟨v0, vs0, d0, ds0, p0, q0, hargs, rfl, rfl, h0, r0⟩ := trodAll_cons hA
  obtain ⟨rfl, rfl, rfl⟩ := trodAll_nil r0
  obtain rfl : args = #[v0] := by cases args; simp_all
  obtain ⟨rfl, rfl⟩ := trodVars_none hV
  have k0 := h0
  have lt0 : ∀ x ∈ p0, x.block < W.heap.size := by obtain ⟨m, hm⟩ := k0; exact DataW.trod_lt m _ _ _ hm
  obtain ⟨a0_0, a0_1, a0_2, A0_3, c0_3, l0_3, rfl, w0_0, w0_1, w0_2, hr0_3, hc0_3, m0_3, w0_3⟩ := Pr.open_board (hval 0 24 v0 rfl rfl) h0
  clear hA0 hval0 hsz0
  refine (Pr.laws_FnExactBestLadder.walk Pure.FnExactBestLadder a0_0 a0_1 a0_2 A0_3 c0_3 l0_3 W hr0_3 hc0_3 w0_0 w0_1 w0_2 m0_3 w0_3).mono fun e W' ⟨he, bel⟩ => ?_
  subst he
  exact ⟨_, rfl, _, _, _, [], _, [], hW', trodAll_mk1 (shut_bool Try.underlying4 _), (trodAll_cons_mk (Below.trod Pr.laidOut (by as_aux_lemma => kernel_rfl) (of_decide_eq_true (by as_aux_lemma => kernel_rfl)) k0 bel lt0) trodAll_mk0), rfl, bel.frame _, fun h => by cases h⟩
theorem over : Rows.fnExactBestLadderRow.holds Try.pinned (OpenSpec.ofChange Rows.fnExactBestLadderSpec) :=
  OpenClaim.holds_of_wide 3 Try.f3 rfl rfl rfl rfl rfl rfl rfl ⟨rfl, rfl, rfl, rfl, rfl⟩ rfl rfl rfl rfl rfl named Try.func3 closed inst wrap
    (fun os started H enc _ => lifted os started H enc)
theorem proved : Rows.FnExactBestLadderSaid := over
#print axioms proved
end Go.Proofs.Ytkobjjadojpjfaa.fnExactBestLadder
namespace Go.Proofs.Ytkobjjadojpjfaa
/-- The row, under a short name, for the claim. -/
theorem fnExactBestLadder_holds : Rows.FnExactBestLadderSaid := fnExactBestLadder.proved
end Go.Proofs.Ytkobjjadojpjfaa
