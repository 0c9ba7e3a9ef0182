/-
  RegReads returns true for every input that the row reads, and leaves its arguments as they were; no condition beyond the row's own.
-/
import Derived.Test.YtgoooilgmabkmaaGreatCe
set_option linter.unusedVariables false
set_option linter.unusedSimpArgs false
set_option linter.unusedSectionVars false
namespace Go.Proofs.YtgoooilgmabkmaaGreat
open Go Go.Sl
open Go.ChangeShapes Go.WideShapes Go.ChangeAt Go.RowKit
set_option linter.unusedVariables false
set_option maxRecDepth 100000

theorem liftedRegReads (os : Os) (started : os.Started) (H : Type) (enc : TypeId × Value → H) :
    ReturnsInHanded {} Tryz.checked os 3 .any (Rows.regReadsSpec.pre6 enc Tryz.prog Tryz.f3 Rows.regReadsRow.domain false) (Rows.regReadsSpec.post enc Tryz.prog Tryz.f3 false true false false) := by
  refine returnsInHanded_of_change_sized (C := Tryz.checked) own started (by kernel_rfl) Tryz.func3
    (ChangeSpec.witness6 (enc := enc) (C := Tryz.checked) false ⟨#[], #[.slice none 0 0, .slice none 0 0], []⟩ 8 (by kernel_rfl) (by kernel_rfl) (by kernel_rfl) (by kernel_rfl)) ?_
  intro W base args ds gs before hval0 hW hcnd hsz _
  have hval : ∀ (j : Nat) t v, Tryz.f3.params[j]? = some t → args[j]? = some v → Value.okWide Tryz.prog W .any base t v := hval0
  have hW' := hW
  obtain ⟨p, q, hA0, hV, rfl, hfz, hnd⟩ := hW
  have hA : DataW.TrodAll enc Tryz.prog W 0 (fun _ => true) true Tryz.f3.params.toList args.toList ds p := hA0
  have hsz' : (DataW.weightsEach Tryz.prog (Tryz.f3.params.toList ++ Rows.regReadsSpec.plain.varTypes Tryz.prog) (ds ++ gs)).all (· ≤ reachBytes) = true := hsz
  rw [Tryz.params3] at hA hval hsz'
  obtain ⟨v0, vs0, d0, ds0, p0, q0, hargs, rfl, rfl, h0, r0⟩ := trodAll_cons hA
  obtain ⟨v1, vs1, d1, ds1, p1, q1, rfl, rfl, rfl, h1, r1⟩ := trodAll_cons r0
  obtain ⟨rfl, rfl, rfl⟩ := trodAll_nil r1
  obtain rfl : args = #[v0, v1] := by cases args; simp_all
  obtain ⟨rfl, rfl⟩ := trodVars_none hV
  obtain ⟨a0, len0, cap0, rfl⟩ := okWide_slice Tryz.underlying22 (hval 0 22 v0 rfl rfl)
  obtain ⟨a1, len1, cap1, rfl⟩ := okWide_slice Tryz.underlying23 (hval 1 23 v1 rfl rfl)
  have lt0 : ∀ x ∈ p0, x.block < W.heap.size := by obtain ⟨m, hm⟩ := h0; exact DataW.trod_lt m _ _ _ hm
  have lt1 : ∀ x ∈ p1, x.block < W.heap.size := by obtain ⟨m, hm⟩ := h1; exact DataW.trod_lt m _ _ _ hm
  obtain ⟨l0, l1⟩ := lite2 (gt := Rows.regReadsSpec.plain.varTypes Tryz.prog) (gs := []) hsz'
  obtain ⟨l, hl⟩ := ents_of h0 l0 rfl
  obtain ⟨keys, hk⟩ := strs_of h1 l1 rfl
  clear hA0 hval0
  refine (lift_calls (law14_RegReads (full W) _ _ l keys hl hk)).mono fun e W' ⟨he, bel⟩ => ?_
  subst he
  exact ⟨_, rfl, _, _, _, [], _, [], hW', trodAll_mk1 (shut_bool Tryz.underlying4 _), (trodAll_cons_mk (Below.trod laidOut (by kernel_rfl) (of_decide_eq_true (by kernel_rfl)) h0 bel lt0) (trodAll_cons_mk (Below.trod laidOut (by kernel_rfl) (of_decide_eq_true (by kernel_rfl)) h1 bel lt1) trodAll_mk0)), rfl, bel.frame _, fun h => by cases h⟩

theorem rr0 : (Rows.regReadsRow.wf (OpenSpec.ofChange Rows.regReadsSpec)) = true := by kernel_rfl
theorem rr1 : (laidOutB Tryz.prog) = true := rc1
theorem rr2 : (mapsRowed Tryz.prog) = true := rc2
theorem rr3 : (Tryz.f3.params.all (Tryz.prog.readableRec ·)) = true := by kernel_rfl
theorem rr4 : (namedTie Tryz.prog Rows.regReadsRow.named Rows.regReadsSpec.vars) = true := by kernel_rfl
theorem rr5 : ((Rows.regReadsRow.stops == [])) = true := by kernel_rfl
theorem rr6 : ((Tryz.prog.stops == [])) = true := rc6
theorem rr7 : ((Rows.regReadsRow.knobs == [])) = true := by kernel_rfl
theorem rr8 : ((Tryz.prog.stopKnobs == [])) = true := rc8
theorem rr9 : ((Rows.regReadsRow.inPlace == Tryz.prog.inPlace 3)) = true := by kernel_rfl
theorem rr10 : ((Rows.regReadsRow.unfollowed == Tryz.prog.unfollowed 3)) = true := by kernel_rfl
theorem rr11 : ((Rows.regReadsRow.recurses == Tryz.prog.recurses 3)) = true := by kernel_rfl
theorem rr12 : ((Rows.regReadsRow.named == Tryz.prog.varsNamed 3)) = true := by kernel_rfl
theorem rr13 : ((Rows.regReadsRow.maps == (Tryz.f3.params.toList ++ Rows.regReadsSpec.plain.varTypes Tryz.prog).any (Tryz.prog.mapsRec ·))) = true := by kernel_rfl
theorem rr14 : ((Rows.regReadsRow.ifaces == (Tryz.f3.params.toList ++ Rows.regReadsSpec.plain.varTypes Tryz.prog).any (Tryz.prog.ifacesRec ·))) = true := by kernel_rfl
theorem rr15 : ((Rows.regReadsRow.mapsOut == Tryz.prog.mapsAmong Tryz.f3.resultTypes.toList)) = true := by kernel_rfl
theorem rr16 : ((Rows.regReadsRow.loops == (Tryz.f3.params.toList ++ Rows.regReadsSpec.plain.varTypes Tryz.prog).any (Tryz.prog.loopsFrom ·))) = true := by kernel_rfl
theorem rr17 : ((Rows.regReadsRow.wideKeys == (Tryz.f3.params.toList ++ Rows.regReadsSpec.plain.varTypes Tryz.prog ++ Tryz.f3.resultTypes.toList).any (Tryz.prog.wideKeysFrom ·))) = true := by kernel_rfl
theorem rr18 : (Rows.regReadsSpec.vars.all (Tryz.prog.varReadable ·)) = true := by kernel_rfl
theorem rr19 : (Tryz.f3.resultTypes.all (fun t => Tryz.prog.readableRec t && decide (t < Tryz.prog.types.size))) = true := by kernel_rfl
theorem rr20 : ((Rows.regReadsRow.ifacesOut == Tryz.f3.resultTypes.toList.any (Tryz.prog.ifacesRec ·))) = true := by kernel_rfl
theorem rr21 : ((Rows.regReadsRow.loopsOut == Tryz.f3.resultTypes.toList.any (Tryz.prog.loopsFrom ·))) = true := by kernel_rfl
theorem rr22 : ((Rows.regReadsRow.plainKeys == Tryz.prog.plainKeys)) = true := rc22
theorem rr23 : (Rows.regReadsRow.shortTexts.isNone) = true := by kernel_rfl
theorem rr24 : (Tryz.prog.stopsHeard) = true := rc24
theorem rr25 : (Tryz.prog.mayEnter) = true := rc25
theorem rr26 : ((Rows.regReadsRow.lifted == Tryz.prog.liftsFinal)) = true := rc26
theorem rr27 : ((Tryz.prog.make == some Rows.regReadsRow.make)) = true := rc27
theorem rr28 : ((Rows.regReadsRow.kinds == (if Rows.regReadsRow.domain.isEmpty then [] else Tryz.f3.params.toList.map fun t => match Tryz.prog.underlying t with | some (.int k) => some k | _ => none))) = true := by kernel_rfl
theorem rr29 : ((Rows.regReadsRow.pinned == Rows.regReadsRow.pinnedBy)) = true := by kernel_rfl
theorem rr30 : ((Rows.regReadsRow.veiled == (Tryz.f3.params.toList ++ Rows.regReadsSpec.plain.varTypes Tryz.prog ++ Tryz.f3.resultTypes.toList).any (Tryz.prog.veiledRec ·))) = true := by kernel_rfl
theorem rr31 : (Rows.regReadsRow.veiledFits Tryz.prog Tryz.f3.params.toList (Tryz.f3.params.toList ++ Rows.regReadsSpec.plain.varTypes Tryz.prog ++ Tryz.f3.resultTypes.toList)) = true := by kernel_rfl
theorem rrClosed : joinedFacts Tryz.prog 3 Tryz.f3 Rows.regReadsSpec Rows.regReadsRow = true := by
  unfold joinedFacts
  exact (and_t (and_t (and_t (and_t (and_t (and_t (and_t (and_t (and_t (and_t (and_t (and_t (and_t (and_t (and_t (and_t (and_t (and_t (and_t (and_t (and_t (and_t (and_t (and_t (and_t (and_t (and_t (and_t (and_t (and_t (and_t rr0 rr1) rr2) rr3) rr4) rr5) rr6) rr7) rr8) rr9) rr10) rr11) rr12) rr13) rr14) rr15) rr16) rr17) rr18) rr19) rr20) rr21) rr22) rr23) rr24) rr25) rr26) rr27) rr28) rr29) rr30) rr31)
theorem overRegReads : Rows.regReadsRow.holds Tryz.pinned (OpenSpec.ofChange Rows.regReadsSpec) :=
  OpenClaim.holds_of_wide 3 Tryz.f3 rfl rfl rfl rfl rfl rfl rfl ⟨rfl, rfl, rfl, rfl, rfl⟩ rfl rfl rfl rfl rfl (by kernel_rfl) Tryz.func3 rrClosed
    (of_decide_eq_true (by kernel_rfl)) (by unfold Func.isWrapper; first | (rw [if_pos (by decide +kernel)]; kernel_rfl) | (rw [if_neg (by decide +kernel)]; exact ⟨rfl, rfl⟩))
    (fun os started H enc _ => liftedRegReads os started H enc)

theorem regReads_holds : Rows.RegReadsSaid := overRegReads
#print axioms regReads_holds
end Go.Proofs.YtgoooilgmabkmaaGreat
