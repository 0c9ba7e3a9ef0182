/-
  pleachlaw16.CountsKeeps: for every list of entries and every key, the law answers true; what it reads stays as it was.
-/
import Derived.Test.YtgoooilgmabkmaaGreatCg
set_option linter.unusedVariables false
set_option linter.unusedSimpArgs false
set_option linter.unusedSectionVars false
namespace Go.Proofs.YtgoooilgmabkmaaGreat
open Go Go.Sl
open Go.ChangeShapes Go.WideShapes Go.ChangeAt Go.RowKit
set_option linter.unusedVariables false
set_option maxRecDepth 100000

theorem liftedCountsKeeps (os : Os) (started : os.Started) (H : Type) (enc : TypeId × Value → H) :
    ReturnsInHanded {} Tryz.checked os 8 .any (Rows.countsKeepsSpec.pre6 enc Tryz.prog Tryz.f8 Rows.countsKeepsRow.domain false) (Rows.countsKeepsSpec.post enc Tryz.prog Tryz.f8 false true false false) := by
  refine returnsInHanded_of_change_sized (C := Tryz.checked) own started (by kernel_rfl) Tryz.func8
    (ChangeSpec.witness6 (enc := enc) (C := Tryz.checked) false ⟨#[], #[.slice none 0 0, .string ⟨#[]⟩], []⟩ 8 (by kernel_rfl) (by kernel_rfl) (by kernel_rfl) (by kernel_rfl)) ?_
  intro W base args ds gs before hval0 hW hcnd hsz _
  have hval : ∀ (j : Nat) t v, Tryz.f8.params[j]? = some t → args[j]? = some v → Value.okWide Tryz.prog W .any base t v := hval0
  have hW' := hW
  obtain ⟨p, q, hA0, hV, rfl, hfz, hnd⟩ := hW
  have hA : DataW.TrodAll enc Tryz.prog W 0 (fun _ => true) true Tryz.f8.params.toList args.toList ds p := hA0
  have hsz' : (DataW.weightsEach Tryz.prog (Tryz.f8.params.toList ++ Rows.countsKeepsSpec.plain.varTypes Tryz.prog) (ds ++ gs)).all (· ≤ reachBytes) = true := hsz
  rw [Tryz.params8] at hA hval hsz'
  obtain ⟨v0, vs0, d0, ds0, p0, q0, hargs, rfl, rfl, h0, r0⟩ := trodAll_cons hA
  obtain ⟨v1, vs1, d1, ds1, p1, q1, rfl, rfl, rfl, h1, r1⟩ := trodAll_cons r0
  obtain ⟨rfl, rfl, rfl⟩ := trodAll_nil r1
  obtain rfl : args = #[v0, v1] := by cases args; simp_all
  obtain ⟨rfl, rfl⟩ := trodVars_none hV
  obtain ⟨a0, len0, cap0, rfl⟩ := okWide_slice Tryz.underlying22 (hval 0 22 v0 rfl rfl)
  obtain ⟨s1, rfl⟩ := okWide_string Tryz.underlying9 (hval 1 9 v1 rfl rfl)
  have lt0 : ∀ x ∈ p0, x.block < W.heap.size := by obtain ⟨m, hm⟩ := h0; exact DataW.trod_lt m _ _ _ hm
  have lt1 : ∀ x ∈ p1, x.block < W.heap.size := by obtain ⟨m, hm⟩ := h1; exact DataW.trod_lt m _ _ _ hm
  obtain ⟨l0, l1⟩ := lite2 (gt := Rows.countsKeepsSpec.plain.varTypes Tryz.prog) (gs := []) hsz'
  obtain ⟨e0, he0⟩ := ents_of h0 l0 rfl
  clear hA0 hval0
  refine (lift_calls (law16_CountsKeeps (full W) _ s1 e0 he0)).mono fun e W' ⟨he, bel⟩ => ?_
  subst he
  exact ⟨_, rfl, _, _, _, [], _, [], hW', trodAll_mk1 (shut_bool Tryz.underlying4 _), (trodAll_cons_mk (Below.trod laidOut (by kernel_rfl) (of_decide_eq_true (by kernel_rfl)) h0 bel lt0) (trodAll_cons_mk (Below.trod laidOut (by kernel_rfl) (of_decide_eq_true (by kernel_rfl)) h1 bel lt1) trodAll_mk0)), rfl, bel.frame _, fun h => by cases h⟩

theorem ck0 : (Rows.countsKeepsRow.wf (OpenSpec.ofChange Rows.countsKeepsSpec)) = true := by kernel_rfl
theorem ck1 : (laidOutB Tryz.prog) = true := rc1
theorem ck2 : (mapsRowed Tryz.prog) = true := rc2
theorem ck3 : (Tryz.f8.params.all (Tryz.prog.readableRec ·)) = true := by kernel_rfl
theorem ck4 : (namedTie Tryz.prog Rows.countsKeepsRow.named Rows.countsKeepsSpec.vars) = true := by kernel_rfl
theorem ck5 : ((Rows.countsKeepsRow.stops == [])) = true := by kernel_rfl
theorem ck6 : ((Tryz.prog.stops == [])) = true := rc6
theorem ck7 : ((Rows.countsKeepsRow.knobs == [])) = true := by kernel_rfl
theorem ck8 : ((Tryz.prog.stopKnobs == [])) = true := rc8
theorem ck9 : ((Rows.countsKeepsRow.inPlace == Tryz.prog.inPlace 8)) = true := by kernel_rfl
theorem ck10 : ((Rows.countsKeepsRow.unfollowed == Tryz.prog.unfollowed 8)) = true := by kernel_rfl
theorem ck11 : ((Rows.countsKeepsRow.recurses == Tryz.prog.recurses 8)) = true := by kernel_rfl
theorem ck12 : ((Rows.countsKeepsRow.named == Tryz.prog.varsNamed 8)) = true := by kernel_rfl
theorem ck13 : ((Rows.countsKeepsRow.maps == (Tryz.f8.params.toList ++ Rows.countsKeepsSpec.plain.varTypes Tryz.prog).any (Tryz.prog.mapsRec ·))) = true := by kernel_rfl
theorem ck14 : ((Rows.countsKeepsRow.ifaces == (Tryz.f8.params.toList ++ Rows.countsKeepsSpec.plain.varTypes Tryz.prog).any (Tryz.prog.ifacesRec ·))) = true := by kernel_rfl
theorem ck15 : ((Rows.countsKeepsRow.mapsOut == Tryz.prog.mapsAmong Tryz.f8.resultTypes.toList)) = true := by kernel_rfl
theorem ck16 : ((Rows.countsKeepsRow.loops == (Tryz.f8.params.toList ++ Rows.countsKeepsSpec.plain.varTypes Tryz.prog).any (Tryz.prog.loopsFrom ·))) = true := by kernel_rfl
theorem ck17 : ((Rows.countsKeepsRow.wideKeys == (Tryz.f8.params.toList ++ Rows.countsKeepsSpec.plain.varTypes Tryz.prog ++ Tryz.f8.resultTypes.toList).any (Tryz.prog.wideKeysFrom ·))) = true := by kernel_rfl
theorem ck18 : (Rows.countsKeepsSpec.vars.all (Tryz.prog.varReadable ·)) = true := by kernel_rfl
theorem ck19 : (Tryz.f8.resultTypes.all (fun t => Tryz.prog.readableRec t && decide (t < Tryz.prog.types.size))) = true := by kernel_rfl
theorem ck20 : ((Rows.countsKeepsRow.ifacesOut == Tryz.f8.resultTypes.toList.any (Tryz.prog.ifacesRec ·))) = true := by kernel_rfl
theorem ck21 : ((Rows.countsKeepsRow.loopsOut == Tryz.f8.resultTypes.toList.any (Tryz.prog.loopsFrom ·))) = true := by kernel_rfl
theorem ck22 : ((Rows.countsKeepsRow.plainKeys == Tryz.prog.plainKeys)) = true := rc22
theorem ck23 : (Rows.countsKeepsRow.shortTexts.isNone) = true := by kernel_rfl
theorem ck24 : (Tryz.prog.stopsHeard) = true := rc24
theorem ck25 : (Tryz.prog.mayEnter) = true := rc25
theorem ck26 : ((Rows.countsKeepsRow.lifted == Tryz.prog.liftsFinal)) = true := rc26
theorem ck27 : ((Tryz.prog.make == some Rows.countsKeepsRow.make)) = true := rc27
theorem ck28 : ((Rows.countsKeepsRow.kinds == (if Rows.countsKeepsRow.domain.isEmpty then [] else Tryz.f8.params.toList.map fun t => match Tryz.prog.underlying t with | some (.int k) => some k | _ => none))) = true := by kernel_rfl
theorem ck29 : ((Rows.countsKeepsRow.pinned == Rows.countsKeepsRow.pinnedBy)) = true := by kernel_rfl
theorem ck30 : ((Rows.countsKeepsRow.veiled == (Tryz.f8.params.toList ++ Rows.countsKeepsSpec.plain.varTypes Tryz.prog ++ Tryz.f8.resultTypes.toList).any (Tryz.prog.veiledRec ·))) = true := by kernel_rfl
theorem ck31 : (Rows.countsKeepsRow.veiledFits Tryz.prog Tryz.f8.params.toList (Tryz.f8.params.toList ++ Rows.countsKeepsSpec.plain.varTypes Tryz.prog ++ Tryz.f8.resultTypes.toList)) = true := by kernel_rfl
theorem ckClosed : joinedFacts Tryz.prog 8 Tryz.f8 Rows.countsKeepsSpec Rows.countsKeepsRow = true := by
  unfold joinedFacts
  exact (and_t (and_t (and_t (and_t (and_t (and_t (and_t (and_t (and_t (and_t (and_t (and_t (and_t (and_t (and_t (and_t (and_t (and_t (and_t (and_t (and_t (and_t (and_t (and_t (and_t (and_t (and_t (and_t (and_t (and_t (and_t ck0 ck1) ck2) ck3) ck4) ck5) ck6) ck7) ck8) ck9) ck10) ck11) ck12) ck13) ck14) ck15) ck16) ck17) ck18) ck19) ck20) ck21) ck22) ck23) ck24) ck25) ck26) ck27) ck28) ck29) ck30) ck31)
theorem overCountsKeeps : Rows.countsKeepsRow.holds Tryz.pinned (OpenSpec.ofChange Rows.countsKeepsSpec) :=
  OpenClaim.holds_of_wide 8 Tryz.f8 rfl rfl rfl rfl rfl rfl rfl ⟨rfl, rfl, rfl, rfl, rfl⟩ rfl rfl rfl rfl rfl (by kernel_rfl) Tryz.func8 ckClosed
    (of_decide_eq_true (by kernel_rfl)) (by unfold Func.isWrapper; first | (rw [if_pos (by decide +kernel)]; kernel_rfl) | (rw [if_neg (by decide +kernel)]; exact ⟨rfl, rfl⟩))
    (fun os started H enc _ => liftedCountsKeeps os started H enc)

theorem countsKeeps_holds : Rows.CountsKeepsSaid := overCountsKeeps
#print axioms countsKeeps_holds
end Go.Proofs.YtgoooilgmabkmaaGreat
