/-
  pleachlaw11.PastNames: the law answers true: the numbers of the errors, and some answers that the document fixes.
-/
import Derived.Test.YtgoooilgmabkmaaCd
set_option linter.unusedVariables false
set_option linter.unusedSimpArgs false
set_option linter.unusedSectionVars false
namespace Go.Proofs.Ytgoooilgmabkmaa
open Go Go.Sl
open Go.ChangeShapes Go.WideShapes Go.ChangeAt Go.RowKit
set_option linter.unusedVariables false
set_option maxRecDepth 100000

theorem liftedPastNames (os : Os) (started : os.Started) (H : Type) (enc : TypeId × Value → H) :
    ReturnsInHanded {} Try.checked os 3 .any (Rows.pastNamesSpec.pre6 enc Try.prog Try.f3 Rows.pastNamesRow.domain false) (Rows.pastNamesSpec.post enc Try.prog Try.f3 false true false false) := by
  refine returnsInHanded_of_change_sized (C := Try.checked) own started (by kernel_rfl) Try.func3
    (ChangeSpec.witness6 (enc := enc) (C := Try.checked) false ⟨#[], #[], []⟩ 8 (by kernel_rfl) (by kernel_rfl) (by kernel_rfl) (by kernel_rfl)) ?_
  intro W base args ds gs before hval0 hW hcnd hsz _
  have hval : ∀ (j : Nat) t v, Try.f3.params[j]? = some t → args[j]? = some v → Value.okWide Try.prog W .any base t v := hval0
  have hW' := hW
  obtain ⟨p, q, hA0, hV, rfl, hfz, hnd⟩ := hW
  have hA : DataW.TrodAll enc Try.prog W 0 (fun _ => true) true Try.f3.params.toList args.toList ds p := hA0
  have hsz' : (DataW.weightsEach Try.prog (Try.f3.params.toList ++ Rows.pastNamesSpec.plain.varTypes Try.prog) (ds ++ gs)).all (· ≤ reachBytes) = true := hsz
  rw [Try.params3] at hA hval hsz'
  obtain ⟨hargs, rfl, rfl⟩ := trodAll_nil hA
  obtain rfl : args = #[] := by cases args; simp_all
  obtain ⟨rfl, rfl⟩ := trodVars_none hV
  clear hA0 hval0
  refine (lift_calls (law11_PastNames (full W))).mono fun e W' ⟨he, bel⟩ => ?_
  subst he
  exact ⟨_, rfl, _, _, _, [], _, [], hW', trodAll_mk1 (shut_bool Try.underlying4 _), trodAll_mk0, rfl, bel.frame _, fun h => by cases h⟩

theorem pn0 : (Rows.pastNamesRow.wf (OpenSpec.ofChange Rows.pastNamesSpec)) = true := by kernel_rfl
theorem pn1 : (laidOutB Try.prog) = true := rc1
theorem pn2 : (mapsRowed Try.prog) = true := rc2
theorem pn3 : (Try.f3.params.all (Try.prog.readableRec ·)) = true := by kernel_rfl
theorem pn4 : (namedTie Try.prog Rows.pastNamesRow.named Rows.pastNamesSpec.vars) = true := by kernel_rfl
theorem pn5 : ((Rows.pastNamesRow.stops == [])) = true := by kernel_rfl
theorem pn6 : ((Try.prog.stops == [])) = true := rc6
theorem pn7 : ((Rows.pastNamesRow.knobs == [])) = true := by kernel_rfl
theorem pn8 : ((Try.prog.stopKnobs == [])) = true := rc8
theorem pn9 : ((Rows.pastNamesRow.inPlace == Try.prog.inPlace 3)) = true := by kernel_rfl
theorem pn10 : ((Rows.pastNamesRow.unfollowed == Try.prog.unfollowed 3)) = true := by kernel_rfl
theorem pn11 : ((Rows.pastNamesRow.recurses == Try.prog.recurses 3)) = true := by kernel_rfl
theorem pn12 : ((Rows.pastNamesRow.named == Try.prog.varsNamed 3)) = true := by kernel_rfl
theorem pn13 : ((Rows.pastNamesRow.maps == (Try.f3.params.toList ++ Rows.pastNamesSpec.plain.varTypes Try.prog).any (Try.prog.mapsRec ·))) = true := by kernel_rfl
theorem pn14 : ((Rows.pastNamesRow.ifaces == (Try.f3.params.toList ++ Rows.pastNamesSpec.plain.varTypes Try.prog).any (Try.prog.ifacesRec ·))) = true := by kernel_rfl
theorem pn15 : ((Rows.pastNamesRow.mapsOut == Try.prog.mapsAmong Try.f3.resultTypes.toList)) = true := by kernel_rfl
theorem pn16 : ((Rows.pastNamesRow.loops == (Try.f3.params.toList ++ Rows.pastNamesSpec.plain.varTypes Try.prog).any (Try.prog.loopsFrom ·))) = true := by kernel_rfl
theorem pn17 : ((Rows.pastNamesRow.wideKeys == (Try.f3.params.toList ++ Rows.pastNamesSpec.plain.varTypes Try.prog ++ Try.f3.resultTypes.toList).any (Try.prog.wideKeysFrom ·))) = true := by kernel_rfl
theorem pn18 : (Rows.pastNamesSpec.vars.all (Try.prog.varReadable ·)) = true := by kernel_rfl
theorem pn19 : (Try.f3.resultTypes.all (fun t => Try.prog.readableRec t && decide (t < Try.prog.types.size))) = true := by kernel_rfl
theorem pn20 : ((Rows.pastNamesRow.ifacesOut == Try.f3.resultTypes.toList.any (Try.prog.ifacesRec ·))) = true := by kernel_rfl
theorem pn21 : ((Rows.pastNamesRow.loopsOut == Try.f3.resultTypes.toList.any (Try.prog.loopsFrom ·))) = true := by kernel_rfl
theorem pn22 : ((Rows.pastNamesRow.plainKeys == Try.prog.plainKeys)) = true := rc22
theorem pn23 : (Rows.pastNamesRow.shortTexts.isNone) = true := by kernel_rfl
theorem pn24 : (Try.prog.stopsHeard) = true := rc24
theorem pn25 : (Try.prog.mayEnter) = true := rc25
theorem pn26 : ((Rows.pastNamesRow.lifted == Try.prog.liftsFinal)) = true := rc26
theorem pn27 : ((Try.prog.make == some Rows.pastNamesRow.make)) = true := rc27
theorem pn28 : ((Rows.pastNamesRow.kinds == (if Rows.pastNamesRow.domain.isEmpty then [] else Try.f3.params.toList.map fun t => match Try.prog.underlying t with | some (.int k) => some k | _ => none))) = true := by kernel_rfl
theorem pn29 : ((Rows.pastNamesRow.pinned == Rows.pastNamesRow.pinnedBy)) = true := by kernel_rfl
theorem pn30 : ((Rows.pastNamesRow.veiled == (Try.f3.params.toList ++ Rows.pastNamesSpec.plain.varTypes Try.prog ++ Try.f3.resultTypes.toList).any (Try.prog.veiledRec ·))) = true := by kernel_rfl
theorem pn31 : (Rows.pastNamesRow.veiledFits Try.prog Try.f3.params.toList (Try.f3.params.toList ++ Rows.pastNamesSpec.plain.varTypes Try.prog ++ Try.f3.resultTypes.toList)) = true := by kernel_rfl
theorem pnClosed : joinedFacts Try.prog 3 Try.f3 Rows.pastNamesSpec Rows.pastNamesRow = true := by
  unfold joinedFacts
  exact (and_t (and_t (and_t (and_t (and_t (and_t (and_t (and_t (and_t (and_t (and_t (and_t (and_t (and_t (and_t (and_t (and_t (and_t (and_t (and_t (and_t (and_t (and_t (and_t (and_t (and_t (and_t (and_t (and_t (and_t (and_t pn0 pn1) pn2) pn3) pn4) pn5) pn6) pn7) pn8) pn9) pn10) pn11) pn12) pn13) pn14) pn15) pn16) pn17) pn18) pn19) pn20) pn21) pn22) pn23) pn24) pn25) pn26) pn27) pn28) pn29) pn30) pn31)
theorem overPastNames : Rows.pastNamesRow.holds Try.pinned (OpenSpec.ofChange Rows.pastNamesSpec) :=
  OpenClaim.holds_of_wide 3 Try.f3 rfl rfl rfl rfl rfl rfl rfl ⟨rfl, rfl, rfl, rfl, rfl⟩ rfl rfl rfl rfl rfl (by kernel_rfl) Try.func3 pnClosed
    (of_decide_eq_true (by kernel_rfl)) (by unfold Func.isWrapper; first | (rw [if_pos (by decide +kernel)]; kernel_rfl) | (rw [if_neg (by decide +kernel)]; exact ⟨rfl, rfl⟩))
    (fun os started H enc _ => liftedPastNames os started H enc)

theorem pastNames_holds : Rows.PastNamesSaid := overPastNames
#print axioms pastNames_holds
end Go.Proofs.Ytgoooilgmabkmaa
