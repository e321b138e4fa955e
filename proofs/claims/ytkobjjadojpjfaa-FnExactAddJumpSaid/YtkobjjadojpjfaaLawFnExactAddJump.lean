/- The row of the law FnExactAddJump, out of its Pure and its walk; no condition of its own. -/
import Derived.Test.YtkobjjadojpjfaaRows
import Derived.Test.YtkobjjadojpjfaaHead
import Derived.Test.YtkobjjadojpjfaaOpen
import Derived.Test.YtkobjjadojpjfaaSFnExactAddJump
import Derived.Test.YtkobjjadojpjfaaPureFnExactAddJump
import Derived.WalkKit
import Derived.ProofKit
import Derived.OpenShut
import Derived.ShutString
import Derived.ChangeOld
import Derived.Below
import Derived.SizedLaws
import Derived.JoinedOf
namespace Go.Proofs.Ytkobjjadojpjfaa.fnExactAddJump
open Go.ChangeShapes Go.WideShapes Go.ChangeAt Go.RowKit
open Go.ChangeMaps (open_string shut_string)
set_option linter.unusedVariables false
set_option maxRecDepth 100000
theorem fact0 : (Rows.fnExactAddJumpRow.wf (OpenSpec.ofChange Rows.fnExactAddJumpSpec)) = true := by kernel_rfl
theorem fact3 : (Try.f28.params.all (Try.prog.readableRec ·)) = true := by kernel_rfl
theorem fact4 : (namedTie Try.prog Rows.fnExactAddJumpRow.named Rows.fnExactAddJumpSpec.vars) = true := by kernel_rfl
theorem fact5 : ((Rows.fnExactAddJumpRow.stops == [])) = true := by kernel_rfl
theorem fact7 : ((Rows.fnExactAddJumpRow.knobs == [])) = true := by kernel_rfl
theorem fact9 : ((Rows.fnExactAddJumpRow.inPlace == Try.prog.inPlace 28)) = true := by kernel_rfl
theorem fact10 : ((Rows.fnExactAddJumpRow.unfollowed == Try.prog.unfollowed 28)) = true := by kernel_rfl
theorem fact11 : ((Rows.fnExactAddJumpRow.recurses == Try.prog.recurses 28)) = true := by kernel_rfl
theorem fact12 : ((Rows.fnExactAddJumpRow.named == Try.prog.varsNamed 28)) = true := by kernel_rfl
theorem fact13 : ((Rows.fnExactAddJumpRow.maps == (Try.f28.params.toList ++ Rows.fnExactAddJumpSpec.plain.varTypes Try.prog).any (Try.prog.mapsRec ·))) = true := by kernel_rfl
theorem fact14 : ((Rows.fnExactAddJumpRow.ifaces == (Try.f28.params.toList ++ Rows.fnExactAddJumpSpec.plain.varTypes Try.prog).any (Try.prog.ifacesRec ·))) = true := by kernel_rfl
theorem fact15 : ((Rows.fnExactAddJumpRow.mapsOut == Try.prog.mapsAmong Try.f28.resultTypes.toList)) = true := by kernel_rfl
theorem fact16 : ((Rows.fnExactAddJumpRow.loops == (Try.f28.params.toList ++ Rows.fnExactAddJumpSpec.plain.varTypes Try.prog).any (Try.prog.loopsFrom ·))) = true := by kernel_rfl
theorem fact17 : ((Rows.fnExactAddJumpRow.wideKeys == (Try.f28.params.toList ++ Rows.fnExactAddJumpSpec.plain.varTypes Try.prog ++ Try.f28.resultTypes.toList).any (Try.prog.wideKeysFrom ·))) = true := by kernel_rfl
theorem fact18 : (Rows.fnExactAddJumpSpec.vars.all (Try.prog.varReadable ·)) = true := by kernel_rfl
theorem fact19 : (Try.f28.resultTypes.all (fun t => Try.prog.readableRec t && decide (t < Try.prog.types.size))) = true := by kernel_rfl
theorem fact20 : ((Rows.fnExactAddJumpRow.ifacesOut == Try.f28.resultTypes.toList.any (Try.prog.ifacesRec ·))) = true := by kernel_rfl
theorem fact21 : ((Rows.fnExactAddJumpRow.loopsOut == Try.f28.resultTypes.toList.any (Try.prog.loopsFrom ·))) = true := by kernel_rfl
theorem fact22 : ((Rows.fnExactAddJumpRow.plainKeys == Try.prog.plainKeys)) = true := by kernel_rfl
theorem fact23 : (Rows.fnExactAddJumpRow.shortTexts.isNone) = true := by kernel_rfl
theorem fact24 : (Try.prog.stopsHeard) = true := by kernel_rfl
theorem fact26 : ((Rows.fnExactAddJumpRow.lifted == Try.prog.liftsFinal)) = true := by rw [Pr.notFinal]; kernel_rfl
theorem fact27 : ((Try.prog.make == some Rows.fnExactAddJumpRow.make)) = true := by rw [Pr.madeCut]; kernel_rfl
theorem fact28 : ((Rows.fnExactAddJumpRow.kinds == (if Rows.fnExactAddJumpRow.domain.isEmpty then [] else Try.f28.params.toList.map fun t => match Try.prog.underlying t with | some (.int k) => some k | _ => none))) = true := by kernel_rfl
theorem fact29 : ((Rows.fnExactAddJumpRow.pinned == Rows.fnExactAddJumpRow.pinnedBy)) = true := by kernel_rfl
theorem fact30 : ((Rows.fnExactAddJumpRow.veiled == (Try.f28.params.toList ++ Rows.fnExactAddJumpSpec.plain.varTypes Try.prog ++ Try.f28.resultTypes.toList).any (Try.prog.veiledRec ·))) = true := by kernel_rfl
theorem fact31 : (Rows.fnExactAddJumpRow.veiledFits Try.prog Try.f28.params.toList (Try.f28.params.toList ++ Rows.fnExactAddJumpSpec.plain.varTypes Try.prog ++ Try.f28.resultTypes.toList)) = true := by kernel_rfl
theorem closed : joinedFacts Try.prog 28 Try.f28 Rows.fnExactAddJumpSpec Rows.fnExactAddJumpRow = true := by
  unfold joinedFacts
  exact Pr.andt (Pr.andt (Pr.andt (Pr.andt (Pr.andt (Pr.andt (Pr.andt (Pr.andt (Pr.andt (Pr.andt (Pr.andt (Pr.andt (Pr.andt (Pr.andt (Pr.andt (Pr.andt (Pr.andt (Pr.andt (Pr.andt (Pr.andt (Pr.andt (Pr.andt (Pr.andt (Pr.andt (Pr.andt (Pr.andt (Pr.andt (Pr.andt (Pr.andt (Pr.andt (Pr.andt (fact0) Pr.laidOut) Pr.rowed) fact3) fact4) fact5) Pr.noStops) fact7) Pr.noKnobs) fact9) fact10) fact11) fact12) fact13) fact14) fact15) fact16) fact17) fact18) fact19) fact20) fact21) fact22) fact23) fact24) Pr.mayEnter) fact26) fact27) fact28) fact29) fact30) fact31
theorem named : Try.prog.funcNamed Rows.fnExactAddJumpRow.func = some 28 := by kernel_rfl
theorem inst : Try.f28.isInstance Try.prog Rows.fnExactAddJumpRow.origin Rows.fnExactAddJumpRow.targs := of_decide_eq_true (by kernel_rfl)
theorem wrap : Try.f28.isWrapper Try.prog Rows.fnExactAddJumpRow.wrapper Rows.fnExactAddJumpRow.mainSum := by
  unfold Func.isWrapper
  first | (rw [if_pos (by decide +kernel)]; kernel_rfl) | (rw [if_neg (by decide +kernel)]; exact ⟨rfl, rfl⟩)
theorem noInit : Try.prog.inits.idxOf? 28 = none := by kernel_rfl
theorem lifted (os : Os) (started : os.Started) (H : Type) (enc : TypeId × Value → H) :
    ReturnsInHanded {} Try.checked os 28 .any (Rows.fnExactAddJumpSpec.pre6 enc Try.prog Try.f28 Rows.fnExactAddJumpRow.domain false) (Rows.fnExactAddJumpSpec.post enc Try.prog Try.f28 false true false false) := by
  refine returnsInHanded_of_change_sized (C := Try.checked) Pr.ownNone started noInit Try.func28
    (ChangeSpec.witness6 (enc := enc) (C := Try.checked) false ⟨#[], #[.agg #[.int .i64 0, .int .i64 0, .int .i64 0, .slice none 0 0], .agg #[.int .i64 0, .int .i64 0]], []⟩ 8 (by as_aux_lemma => kernel_rfl) (by as_aux_lemma => kernel_rfl) (by as_aux_lemma => kernel_rfl) (by as_aux_lemma => kernel_rfl)) ?_
  intro W base args ds gs before hval0 hW hcnd hsz0 _
  have hval : ∀ (j : Nat) t v, Try.f28.params[j]? = some t → args[j]? = some v → Value.okWide Try.prog W .any base t v := hval0
  have hW' := hW
  obtain ⟨p, q, hA0, hV, rfl, hfz, hnd⟩ := hW
  have hA : DataW.TrodAll enc Try.prog W 0 (fun _ => true) true Try.f28.params.toList args.toList ds p := hA0
  rw [Try.params28] at hA hval
  obtain ⟨v0, vs0, d0, ds0, p0, q0, hargs, rfl, rfl, h0, r0⟩ := trodAll_cons hA
  obtain ⟨v1, vs1, d1, ds1, p1, q1, rfl, rfl, rfl, h1, r1⟩ := trodAll_cons r0
  obtain ⟨rfl, rfl, rfl⟩ := trodAll_nil r1
  obtain rfl : args = #[v0, v1] := by cases args; simp_all
  obtain ⟨rfl, rfl⟩ := trodVars_none hV
  have k0 := h0
  have lt0 : ∀ x ∈ p0, x.block < W.heap.size := by obtain ⟨m, hm⟩ := k0; exact DataW.trod_lt m _ _ _ hm
  obtain ⟨a0_0, a0_1, a0_2, A0_3, c0_3, l0_3, rfl, w0_0, w0_1, w0_2, hr0_3, hc0_3, m0_3, w0_3⟩ := Pr.open_board (hval 0 24 v0 rfl rfl) h0
  have k1 := h1
  have lt1 : ∀ x ∈ p1, x.block < W.heap.size := by obtain ⟨m, hm⟩ := k1; exact DataW.trod_lt m _ _ _ hm
  obtain ⟨a1_0, a1_1, rfl, w1_0, w1_1⟩ := Pr.open_jump (hval 1 82 v1 rfl rfl) h1
  clear hA0 hval0 hsz0
  refine (Pr.laws_FnExactAddJump.walk Pure.FnExactAddJump a0_0 a0_1 a0_2 A0_3 c0_3 l0_3 a1_0 a1_1 W hr0_3 hc0_3 w0_0 w0_1 w0_2 m0_3 w0_3 w1_0 w1_1).mono fun e W' ⟨he, bel⟩ => ?_
  subst he
  exact ⟨_, rfl, _, _, _, [], _, [], hW', trodAll_mk1 (shut_bool Try.underlying4 _), (trodAll_cons_mk (Below.trod Pr.laidOut (by as_aux_lemma => kernel_rfl) (of_decide_eq_true (by as_aux_lemma => kernel_rfl)) k0 bel lt0) (trodAll_cons_mk (Below.trod Pr.laidOut (by as_aux_lemma => kernel_rfl) (of_decide_eq_true (by as_aux_lemma => kernel_rfl)) k1 bel lt1) trodAll_mk0)), rfl, bel.frame _, fun h => by cases h⟩
theorem over : Rows.fnExactAddJumpRow.holds Try.pinned (OpenSpec.ofChange Rows.fnExactAddJumpSpec) :=
  OpenClaim.holds_of_wide 28 Try.f28 rfl rfl rfl rfl rfl rfl rfl ⟨rfl, rfl, rfl, rfl, rfl⟩ rfl rfl rfl rfl rfl named Try.func28 closed inst wrap
    (fun os started H enc _ => lifted os started H enc)
theorem proved : Rows.FnExactAddJumpSaid := over
#print axioms proved
end Go.Proofs.Ytkobjjadojpjfaa.fnExactAddJump
namespace Go.Proofs.Ytkobjjadojpjfaa
/-- The row, under a short name, for the claim. -/
theorem fnExactAddJump_holds : Rows.FnExactAddJumpSaid := fnExactAddJump.proved
end Go.Proofs.Ytkobjjadojpjfaa
