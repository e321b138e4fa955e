/- The row of the law FnExactLaddersOf, out of its Pure and its walk; no condition of its own. -/
import Derived.Test.YtkobjjadojpjfaaRows
import Derived.Test.YtkobjjadojpjfaaHead
import Derived.Test.YtkobjjadojpjfaaOpen
import Derived.Test.YtkobjjadojpjfaaSFnExactLaddersOf
import Derived.Test.YtkobjjadojpjfaaPureFnExactLaddersOf
import Derived.WalkKit
import Derived.ProofKit
import Derived.OpenShut
import Derived.ShutString
import Derived.ChangeOld
import Derived.Below
import Derived.SizedLaws
import Derived.JoinedOf
namespace Go.Proofs.Ytkobjjadojpjfaa.fnExactLaddersOf
open Go.ChangeShapes Go.WideShapes Go.ChangeAt Go.RowKit
open Go.ChangeMaps (open_string shut_string)
set_option linter.unusedVariables false
set_option maxRecDepth 100000
theorem fact0 : (Rows.fnExactLaddersOfRow.wf (OpenSpec.ofChange Rows.fnExactLaddersOfSpec)) = true := by kernel_rfl
theorem fact3 : (Try.f8.params.all (Try.prog.readableRec ·)) = true := by kernel_rfl
theorem fact4 : (namedTie Try.prog Rows.fnExactLaddersOfRow.named Rows.fnExactLaddersOfSpec.vars) = true := by kernel_rfl
theorem fact5 : ((Rows.fnExactLaddersOfRow.stops == [])) = true := by kernel_rfl
theorem fact7 : ((Rows.fnExactLaddersOfRow.knobs == [])) = true := by kernel_rfl
theorem fact9 : ((Rows.fnExactLaddersOfRow.inPlace == Try.prog.inPlace 8)) = true := by kernel_rfl
theorem fact10 : ((Rows.fnExactLaddersOfRow.unfollowed == Try.prog.unfollowed 8)) = true := by kernel_rfl
theorem fact11 : ((Rows.fnExactLaddersOfRow.recurses == Try.prog.recurses 8)) = true := by kernel_rfl
theorem fact12 : ((Rows.fnExactLaddersOfRow.named == Try.prog.varsNamed 8)) = true := by kernel_rfl
theorem fact13 : ((Rows.fnExactLaddersOfRow.maps == (Try.f8.params.toList ++ Rows.fnExactLaddersOfSpec.plain.varTypes Try.prog).any (Try.prog.mapsRec ·))) = true := by kernel_rfl
theorem fact14 : ((Rows.fnExactLaddersOfRow.ifaces == (Try.f8.params.toList ++ Rows.fnExactLaddersOfSpec.plain.varTypes Try.prog).any (Try.prog.ifacesRec ·))) = true := by kernel_rfl
theorem fact15 : ((Rows.fnExactLaddersOfRow.mapsOut == Try.prog.mapsAmong Try.f8.resultTypes.toList)) = true := by kernel_rfl
theorem fact16 : ((Rows.fnExactLaddersOfRow.loops == (Try.f8.params.toList ++ Rows.fnExactLaddersOfSpec.plain.varTypes Try.prog).any (Try.prog.loopsFrom ·))) = true := by kernel_rfl
theorem fact17 : ((Rows.fnExactLaddersOfRow.wideKeys == (Try.f8.params.toList ++ Rows.fnExactLaddersOfSpec.plain.varTypes Try.prog ++ Try.f8.resultTypes.toList).any (Try.prog.wideKeysFrom ·))) = true := by kernel_rfl
theorem fact18 : (Rows.fnExactLaddersOfSpec.vars.all (Try.prog.varReadable ·)) = true := by kernel_rfl
theorem fact19 : (Try.f8.resultTypes.all (fun t => Try.prog.readableRec t && decide (t < Try.prog.types.size))) = true := by kernel_rfl
theorem fact20 : ((Rows.fnExactLaddersOfRow.ifacesOut == Try.f8.resultTypes.toList.any (Try.prog.ifacesRec ·))) = true := by kernel_rfl
theorem fact21 : ((Rows.fnExactLaddersOfRow.loopsOut == Try.f8.resultTypes.toList.any (Try.prog.loopsFrom ·))) = true := by kernel_rfl
theorem fact22 : ((Rows.fnExactLaddersOfRow.plainKeys == Try.prog.plainKeys)) = true := by kernel_rfl
theorem fact23 : (Rows.fnExactLaddersOfRow.shortTexts.isNone) = true := by kernel_rfl
theorem fact24 : (Try.prog.stopsHeard) = true := by kernel_rfl
theorem fact26 : ((Rows.fnExactLaddersOfRow.lifted == Try.prog.liftsFinal)) = true := by rw [Pr.notFinal]; kernel_rfl
theorem fact27 : ((Try.prog.make == some Rows.fnExactLaddersOfRow.make)) = true := by rw [Pr.madeCut]; kernel_rfl
theorem fact28 : ((Rows.fnExactLaddersOfRow.kinds == (if Rows.fnExactLaddersOfRow.domain.isEmpty then [] else Try.f8.params.toList.map fun t => match Try.prog.underlying t with | some (.int k) => some k | _ => none))) = true := by kernel_rfl
theorem fact29 : ((Rows.fnExactLaddersOfRow.pinned == Rows.fnExactLaddersOfRow.pinnedBy)) = true := by kernel_rfl
theorem fact30 : ((Rows.fnExactLaddersOfRow.veiled == (Try.f8.params.toList ++ Rows.fnExactLaddersOfSpec.plain.varTypes Try.prog ++ Try.f8.resultTypes.toList).any (Try.prog.veiledRec ·))) = true := by kernel_rfl
theorem fact31 : (Rows.fnExactLaddersOfRow.veiledFits Try.prog Try.f8.params.toList (Try.f8.params.toList ++ Rows.fnExactLaddersOfSpec.plain.varTypes Try.prog ++ Try.f8.resultTypes.toList)) = true := by kernel_rfl
theorem closed : joinedFacts Try.prog 8 Try.f8 Rows.fnExactLaddersOfSpec Rows.fnExactLaddersOfRow = true := by
  unfold joinedFacts
  exact Pr.andt (Pr.andt (Pr.andt (Pr.andt (Pr.andt (Pr.andt (Pr.andt (Pr.andt (Pr.andt (Pr.andt (Pr.andt (Pr.andt (Pr.andt (Pr.andt (Pr.andt (Pr.andt (Pr.andt (Pr.andt (Pr.andt (Pr.andt (Pr.andt (Pr.andt (Pr.andt (Pr.andt (Pr.andt (Pr.andt (Pr.andt (Pr.andt (Pr.andt (Pr.andt (Pr.andt (fact0) Pr.laidOut) Pr.rowed) fact3) fact4) fact5) Pr.noStops) fact7) Pr.noKnobs) fact9) fact10) fact11) fact12) fact13) fact14) fact15) fact16) fact17) fact18) fact19) fact20) fact21) fact22) fact23) fact24) Pr.mayEnter) fact26) fact27) fact28) fact29) fact30) fact31
theorem named : Try.prog.funcNamed Rows.fnExactLaddersOfRow.func = some 8 := by kernel_rfl
theorem inst : Try.f8.isInstance Try.prog Rows.fnExactLaddersOfRow.origin Rows.fnExactLaddersOfRow.targs := of_decide_eq_true (by kernel_rfl)
theorem wrap : Try.f8.isWrapper Try.prog Rows.fnExactLaddersOfRow.wrapper Rows.fnExactLaddersOfRow.mainSum := by
  unfold Func.isWrapper
  first | (rw [if_pos (by decide +kernel)]; kernel_rfl) | (rw [if_neg (by decide +kernel)]; exact ⟨rfl, rfl⟩)
theorem noInit : Try.prog.inits.idxOf? 8 = none := by kernel_rfl
theorem lifted (os : Os) (started : os.Started) (H : Type) (enc : TypeId × Value → H) :
    ReturnsInHanded {} Try.checked os 8 .any (Rows.fnExactLaddersOfSpec.pre6 enc Try.prog Try.f8 Rows.fnExactLaddersOfRow.domain false) (Rows.fnExactLaddersOfSpec.post enc Try.prog Try.f8 false true false false) := by
  refine returnsInHanded_of_change_sized (C := Try.checked) Pr.ownNone started noInit Try.func8
    (ChangeSpec.witness6 (enc := enc) (C := Try.checked) false ⟨#[], #[.agg #[.int .i64 0, .int .i64 0, .int .i64 0, .slice none 0 0]], []⟩ 8 (by as_aux_lemma => kernel_rfl) (by as_aux_lemma => kernel_rfl) (by as_aux_lemma => kernel_rfl) (by as_aux_lemma => kernel_rfl)) ?_
  intro W base args ds gs before hval0 hW hcnd hsz0 _
  have hval : ∀ (j : Nat) t v, Try.f8.params[j]? = some t → args[j]? = some v → Value.okWide Try.prog W .any base t v := hval0
  have hW' := hW
  obtain ⟨p, q, hA0, hV, rfl, hfz, hnd⟩ := hW
  have hA : DataW.TrodAll enc Try.prog W 0 (fun _ => true) true Try.f8.params.toList args.toList ds p := hA0
  rw [Try.params8] at hA hval
  obtain ⟨v0, vs0, d0, ds0, p0, q0, hargs, rfl, rfl, h0, r0⟩ := trodAll_cons hA
  obtain ⟨rfl, rfl, rfl⟩ := trodAll_nil r0
  obtain rfl : args = #[v0] := by cases args; simp_all
  obtain ⟨rfl, rfl⟩ := trodVars_none hV
  have k0 := h0
  have lt0 : ∀ x ∈ p0, x.block < W.heap.size := by obtain ⟨m, hm⟩ := k0; exact DataW.trod_lt m _ _ _ hm
  obtain ⟨a0_0, a0_1, a0_2, A0_3, c0_3, l0_3, rfl, w0_0, w0_1, w0_2, hr0_3, hc0_3, m0_3, w0_3⟩ := Pr.open_board (hval 0 24 v0 rfl rfl) h0
  clear hA0 hval0 hsz0
  refine (Pr.laws_FnExactLaddersOf.walk Pure.FnExactLaddersOf a0_0 a0_1 a0_2 A0_3 c0_3 l0_3 W hr0_3 hc0_3 w0_0 w0_1 w0_2 m0_3 w0_3).mono fun e W' ⟨he, bel⟩ => ?_
  subst he
  exact ⟨_, rfl, _, _, _, [], _, [], hW', trodAll_mk1 (shut_bool Try.underlying4 _), (trodAll_cons_mk (Below.trod Pr.laidOut (by as_aux_lemma => kernel_rfl) (of_decide_eq_true (by as_aux_lemma => kernel_rfl)) k0 bel lt0) trodAll_mk0), rfl, bel.frame _, fun h => by cases h⟩
theorem over : Rows.fnExactLaddersOfRow.holds Try.pinned (OpenSpec.ofChange Rows.fnExactLaddersOfSpec) :=
  OpenClaim.holds_of_wide 8 Try.f8 rfl rfl rfl rfl rfl rfl rfl ⟨rfl, rfl, rfl, rfl, rfl⟩ rfl rfl rfl rfl rfl named Try.func8 closed inst wrap
    (fun os started H enc _ => lifted os started H enc)
theorem proved : Rows.FnExactLaddersOfSaid := over
#print axioms proved
end Go.Proofs.Ytkobjjadojpjfaa.fnExactLaddersOf
namespace Go.Proofs.Ytkobjjadojpjfaa
/-- The row, under a short name, for the claim. -/
theorem fnExactLaddersOf_holds : Rows.FnExactLaddersOfSaid := fnExactLaddersOf.proved
end Go.Proofs.Ytkobjjadojpjfaa
