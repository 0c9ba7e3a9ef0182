/-
  RegKeeps returns true for every input that the row reads, and leaves its arguments as they were; no condition beyond the row's own.
-/
import Derived.Test.YtgoooilgmabkmaaGreatCe
set_option linter.unusedVariables false
set_option linter.unusedSimpArgs false
set_option linter.unusedSectionVars false
namespace Go.Proofs.YtgoooilgmabkmaaGreat
open Go Go.Sl
open Go.ChangeShapes Go.WideShapes Go.ChangeAt Go.RowKit
set_option linter.unusedVariables false
set_option maxRecDepth 100000

theorem liftedRegKeeps (os : Os) (started : os.Started) (H : Type) (enc : TypeId × Value → H) :
    ReturnsInHanded {} Tryz.checked os 5 .any (Rows.regKeepsSpec.pre6 enc Tryz.prog Tryz.f5 Rows.regKeepsRow.domain false) (Rows.regKeepsSpec.post enc Tryz.prog Tryz.f5 false true false false) := by
  refine returnsInHanded_of_change_sized (C := Tryz.checked) own started (by kernel_rfl) Tryz.func5
    (ChangeSpec.witness6 (enc := enc) (C := Tryz.checked) false ⟨#[], #[.slice none 0 0, .string ⟨#[]⟩], []⟩ 8 (by kernel_rfl) (by kernel_rfl) (by kernel_rfl) (by kernel_rfl)) ?_
  intro W base args ds gs before hval0 hW hcnd hsz _
  have hval : ∀ (j : Nat) t v, Tryz.f5.params[j]? = some t → args[j]? = some v → Value.okWide Tryz.prog W .any base t v := hval0
  have hW' := hW
  obtain ⟨p, q, hA0, hV, rfl, hfz, hnd⟩ := hW
  have hA : DataW.TrodAll enc Tryz.prog W 0 (fun _ => true) true Tryz.f5.params.toList args.toList ds p := hA0
  have hsz' : (DataW.weightsEach Tryz.prog (Tryz.f5.params.toList ++ Rows.regKeepsSpec.plain.varTypes Tryz.prog) (ds ++ gs)).all (· ≤ reachBytes) = true := hsz
  rw [Tryz.params5] at hA hval hsz'
  obtain ⟨v0, vs0, d0, ds0, p0, q0, hargs, rfl, rfl, h0, r0⟩ := trodAll_cons hA
  obtain ⟨v1, vs1, d1, ds1, p1, q1, rfl, rfl, rfl, h1, r1⟩ := trodAll_cons r0
  obtain ⟨rfl, rfl, rfl⟩ := trodAll_nil r1
  obtain rfl : args = #[v0, v1] := by cases args; simp_all
  obtain ⟨rfl, rfl⟩ := trodVars_none hV
  obtain ⟨a0, len0, cap0, rfl⟩ := okWide_slice Tryz.underlying22 (hval 0 22 v0 rfl rfl)
  obtain ⟨s1, rfl⟩ := okWide_string Tryz.underlying9 (hval 1 9 v1 rfl rfl)
  have lt0 : ∀ x ∈ p0, x.block < W.heap.size := by obtain ⟨m, hm⟩ := h0; exact DataW.trod_lt m _ _ _ hm
  have lt1 : ∀ x ∈ p1, x.block < W.heap.size := by obtain ⟨m, hm⟩ := h1; exact DataW.trod_lt m _ _ _ hm
  obtain ⟨l0, l1⟩ := lite2 (gt := Rows.regKeepsSpec.plain.varTypes Tryz.prog) (gs := []) hsz'
  obtain ⟨e0, he0⟩ := ents_of h0 l0 rfl
  clear hA0 hval0
  refine (lift_calls (law14_RegKeeps (full W) _ s1 e0 he0)).mono fun e W' ⟨he, bel⟩ => ?_
  subst he
  exact ⟨_, rfl, _, _, _, [], _, [], hW', trodAll_mk1 (shut_bool Tryz.underlying4 _), (trodAll_cons_mk (Below.trod laidOut (by kernel_rfl) (of_decide_eq_true (by kernel_rfl)) h0 bel lt0) (trodAll_cons_mk (Below.trod laidOut (by kernel_rfl) (of_decide_eq_true (by kernel_rfl)) h1 bel lt1) trodAll_mk0)), rfl, bel.frame _, fun h => by cases h⟩

theorem rk0 : (Rows.regKeepsRow.wf (OpenSpec.ofChange Rows.regKeepsSpec)) = true := by kernel_rfl
theorem rk1 : (laidOutB Tryz.prog) = true := rc1
theorem rk2 : (mapsRowed Tryz.prog) = true := rc2
theorem rk3 : (Tryz.f5.params.all (Tryz.prog.readableRec ·)) = true := by kernel_rfl
theorem rk4 : (namedTie Tryz.prog Rows.regKeepsRow.named Rows.regKeepsSpec.vars) = true := by kernel_rfl
theorem rk5 : ((Rows.regKeepsRow.stops == [])) = true := by kernel_rfl
theorem rk6 : ((Tryz.prog.stops == [])) = true := rc6
theorem rk7 : ((Rows.regKeepsRow.knobs == [])) = true := by kernel_rfl
theorem rk8 : ((Tryz.prog.stopKnobs == [])) = true := rc8
theorem rk9 : ((Rows.regKeepsRow.inPlace == Tryz.prog.inPlace 5)) = true := by kernel_rfl
theorem rk10 : ((Rows.regKeepsRow.unfollowed == Tryz.prog.unfollowed 5)) = true := by kernel_rfl
theorem rk11 : ((Rows.regKeepsRow.recurses == Tryz.prog.recurses 5)) = true := by kernel_rfl
theorem rk12 : ((Rows.regKeepsRow.named == Tryz.prog.varsNamed 5)) = true := by kernel_rfl
theorem rk13 : ((Rows.regKeepsRow.maps == (Tryz.f5.params.toList ++ Rows.regKeepsSpec.plain.varTypes Tryz.prog).any (Tryz.prog.mapsRec ·))) = true := by kernel_rfl
theorem rk14 : ((Rows.regKeepsRow.ifaces == (Tryz.f5.params.toList ++ Rows.regKeepsSpec.plain.varTypes Tryz.prog).any (Tryz.prog.ifacesRec ·))) = true := by kernel_rfl
theorem rk15 : ((Rows.regKeepsRow.mapsOut == Tryz.prog.mapsAmong Tryz.f5.resultTypes.toList)) = true := by kernel_rfl
theorem rk16 : ((Rows.regKeepsRow.loops == (Tryz.f5.params.toList ++ Rows.regKeepsSpec.plain.varTypes Tryz.prog).any (Tryz.prog.loopsFrom ·))) = true := by kernel_rfl
theorem rk17 : ((Rows.regKeepsRow.wideKeys == (Tryz.f5.params.toList ++ Rows.regKeepsSpec.plain.varTypes Tryz.prog ++ Tryz.f5.resultTypes.toList).any (Tryz.prog.wideKeysFrom ·))) = true := by kernel_rfl
theorem rk18 : (Rows.regKeepsSpec.vars.all (Tryz.prog.varReadable ·)) = true := by kernel_rfl
theorem rk19 : (Tryz.f5.resultTypes.all (fun t => Tryz.prog.readableRec t && decide (t < Tryz.prog.types.size))) = true := by kernel_rfl
theorem rk20 : ((Rows.regKeepsRow.ifacesOut == Tryz.f5.resultTypes.toList.any (Tryz.prog.ifacesRec ·))) = true := by kernel_rfl
theorem rk21 : ((Rows.regKeepsRow.loopsOut == Tryz.f5.resultTypes.toList.any (Tryz.prog.loopsFrom ·))) = true := by kernel_rfl
theorem rk22 : ((Rows.regKeepsRow.plainKeys == Tryz.prog.plainKeys)) = true := rc22
theorem rk23 : (Rows.regKeepsRow.shortTexts.isNone) = true := by kernel_rfl
theorem rk24 : (Tryz.prog.stopsHeard) = true := rc24
theorem rk25 : (Tryz.prog.mayEnter) = true := rc25
theorem rk26 : ((Rows.regKeepsRow.lifted == Tryz.prog.liftsFinal)) = true := rc26
theorem rk27 : ((Tryz.prog.make == some Rows.regKeepsRow.make)) = true := rc27
theorem rk28 : ((Rows.regKeepsRow.kinds == (if Rows.regKeepsRow.domain.isEmpty then [] else Tryz.f5.params.toList.map fun t => match Tryz.prog.underlying t with | some (.int k) => some k | _ => none))) = true := by kernel_rfl
theorem rk29 : ((Rows.regKeepsRow.pinned == Rows.regKeepsRow.pinnedBy)) = true := by kernel_rfl
theorem rk30 : ((Rows.regKeepsRow.veiled == (Tryz.f5.params.toList ++ Rows.regKeepsSpec.plain.varTypes Tryz.prog ++ Tryz.f5.resultTypes.toList).any (Tryz.prog.veiledRec ·))) = true := by kernel_rfl
theorem rk31 : (Rows.regKeepsRow.veiledFits Tryz.prog Tryz.f5.params.toList (Tryz.f5.params.toList ++ Rows.regKeepsSpec.plain.varTypes Tryz.prog ++ Tryz.f5.resultTypes.toList)) = true := by kernel_rfl
theorem rkClosed : joinedFacts Tryz.prog 5 Tryz.f5 Rows.regKeepsSpec Rows.regKeepsRow = true := by
  unfold joinedFacts
  exact (and_t (and_t (and_t (and_t (and_t (and_t (and_t (and_t (and_t (and_t (and_t (and_t (and_t (and_t (and_t (and_t (and_t (and_t (and_t (and_t (and_t (and_t (and_t (and_t (and_t (and_t (and_t (and_t (and_t (and_t (and_t rk0 rk1) rk2) rk3) rk4) rk5) rk6) rk7) rk8) rk9) rk10) rk11) rk12) rk13) rk14) rk15) rk16) rk17) rk18) rk19) rk20) rk21) rk22) rk23) rk24) rk25) rk26) rk27) rk28) rk29) rk30) rk31)
theorem overRegKeeps : Rows.regKeepsRow.holds Tryz.pinned (OpenSpec.ofChange Rows.regKeepsSpec) :=
  OpenClaim.holds_of_wide 5 Tryz.f5 rfl rfl rfl rfl rfl rfl rfl ⟨rfl, rfl, rfl, rfl, rfl⟩ rfl rfl rfl rfl rfl (by kernel_rfl) Tryz.func5 rkClosed
    (of_decide_eq_true (by kernel_rfl)) (by unfold Func.isWrapper; first | (rw [if_pos (by decide +kernel)]; kernel_rfl) | (rw [if_neg (by decide +kernel)]; exact ⟨rfl, rfl⟩))
    (fun os started H enc _ => liftedRegKeeps os started H enc)

theorem regKeeps_holds : Rows.RegKeepsSaid := overRegKeeps
#print axioms regKeeps_holds
end Go.Proofs.YtgoooilgmabkmaaGreat
