/-
  pleachlaw16.CountsFollows: for every list of entries and every transaction to come, the law answers true; what it reads stays as it was.
-/
import Derived.Test.YtgoooilgmabkmaaGreatCf
set_option linter.unusedVariables false
set_option linter.unusedSimpArgs false
set_option linter.unusedSectionVars false
namespace Go.Proofs.YtgoooilgmabkmaaGreat
open Go Go.Sl
open Go.ChangeShapes Go.WideShapes Go.ChangeAt Go.RowKit
set_option linter.unusedVariables false
set_option maxRecDepth 100000

theorem okWide_str {P : Program} {w : World} {r : Reach} {base : Nat} {fs : Array Field} {t : TypeId} {v : Value} (ht : P.underlying t = some (.struct fs)) (h : Value.okWide P w r base t v) : ∃ cs, v = .agg cs ∧ cs.size = P.cellsOf t := by
  simp only [Value.okWide, ht] at h
  obtain ⟨cs, h1, h2, _⟩ := h
  exact ⟨cs, h1, h2⟩
theorem c56 : Tryz.prog.cellsOf 56 = 34 := by kernel_rfl
section
variable {H : Type} {enc : TypeId × Value → H} {W : World}
def eMore : Enc (Nat × List OpD × ByteArray) := fun σ x vs => ∃ ov, vs = moreCells x.1 ov x.2.2 ∧ IsH x.1 ∧ SlE σ eOp 37 88 ov x.2.1
theorem rd_more : Reads enc Tryz.prog W 56 eMore := by
  intro fuel cs d ps h hl hlen
  rw [c56] at hlen
  obtain ⟨a, _, a2, a3⟩ := Reads.field (off := 0) Tryz.underlying56 h hl 0 rfl rfl c39 (by omega) rd_hash
  obtain ⟨o, _, ov, o2, o3⟩ := Reads.field (off := 32) Tryz.underlying56 h hl 1 rfl rfl c40 (by omega) rd_ops
  obtain ⟨k, _, k2, k3⟩ := Reads.field (off := 33) Tryz.underlying56 h hl 2 rfl rfl c9 (by omega) rd_str
  have e := cutC (cs := cs) (off := 0) (sz := 32) (cutC (off := 32) (sz := 1) (cutC (off := 33) (sz := 1) (List.drop_of_length_le (by omega))))
  rw [List.drop_zero] at e a2
  rw [a2, o2, k2] at e
  refine ⟨(a, o, k), ?_, ov, e, a3, o3⟩
  obtain ⟨oa, oc, rfl, _⟩ := o3.shape
  rw [e]
  rfl
theorem more_of {cs : Array Value} {d : DataW H} {p : List MemPlace} (h : DataW.Trod enc Tryz.prog W 0 (fun _ => true) true 56 (.agg cs) d p) (hl : Lite Tryz.prog 56 d) (hz : cs.size = Tryz.prog.cellsOf 56) : ∃ id ops key ov, cs = (moreCells id ov key).toArray ∧ IsH id ∧ SlE (full W) eOp 37 88 ov ops := by
  obtain ⟨fuel, hf⟩ := h
  obtain ⟨x, _, ov, h1, h2, h3⟩ := rd_more fuel _ d p hf hl (by rw [← hz]; exact Array.length_toList)
  have h4 : cs.toList = moreCells x.1 ov x.2.2 := h1
  exact ⟨x.1, x.2.1, x.2.2, ov, by rw [← h4], h2, h3⟩
end
theorem liftedCountsFollows (os : Os) (started : os.Started) (H : Type) (enc : TypeId × Value → H) :
    ReturnsInHanded {} Tryz.checked os 6 .any (Rows.countsFollowsSpec.pre6 enc Tryz.prog Tryz.f6 Rows.countsFollowsRow.domain false) (Rows.countsFollowsSpec.post enc Tryz.prog Tryz.f6 false true false false) := by
  refine returnsInHanded_of_change_sized (C := Tryz.checked) own started (by kernel_rfl) Tryz.func6
    (ChangeSpec.witness6 (enc := enc) (C := Tryz.checked) false ⟨#[], #[.slice none 0 0, .agg ((Array.replicate 32 (.int .u8 0)) ++ #[.slice none 0 0, .string ⟨#[]⟩])], []⟩ 8 (by kernel_rfl) (by kernel_rfl) (by kernel_rfl) (by kernel_rfl)) ?_
  intro W base args ds gs before hval0 hW hcnd hsz _
  have hval : ∀ (j : Nat) t v, Tryz.f6.params[j]? = some t → args[j]? = some v → Value.okWide Tryz.prog W .any base t v := hval0
  have hW' := hW
  obtain ⟨p, q, hA0, hV, rfl, hfz, hnd⟩ := hW
  have hA : DataW.TrodAll enc Tryz.prog W 0 (fun _ => true) true Tryz.f6.params.toList args.toList ds p := hA0
  have hsz' : (DataW.weightsEach Tryz.prog (Tryz.f6.params.toList ++ Rows.countsFollowsSpec.plain.varTypes Tryz.prog) (ds ++ gs)).all (· ≤ reachBytes) = true := hsz
  rw [Tryz.params6] at hA hval hsz'
  obtain ⟨v0, vs0, d0, ds0, p0, q0, hargs, rfl, rfl, h0, r0⟩ := trodAll_cons hA
  obtain ⟨v1, vs1, d1, ds1, p1, q1, rfl, rfl, rfl, h1, r1⟩ := trodAll_cons r0
  obtain ⟨rfl, rfl, rfl⟩ := trodAll_nil r1
  obtain rfl : args = #[v0, v1] := by cases args; simp_all
  obtain ⟨rfl, rfl⟩ := trodVars_none hV
  obtain ⟨a0, len0, cap0, rfl⟩ := okWide_slice Tryz.underlying22 (hval 0 22 v0 rfl rfl)
  obtain ⟨cs1, rfl, hz1⟩ := okWide_str Tryz.underlying56 (hval 1 56 v1 rfl rfl)
  have lt0 : ∀ x ∈ p0, x.block < W.heap.size := by obtain ⟨m, hm⟩ := h0; exact DataW.trod_lt m _ _ _ hm
  have lt1 : ∀ x ∈ p1, x.block < W.heap.size := by obtain ⟨m, hm⟩ := h1; exact DataW.trod_lt m _ _ _ hm
  obtain ⟨l0, l1⟩ := lite2 (gt := Rows.countsFollowsSpec.plain.varTypes Tryz.prog) (gs := []) hsz'
  obtain ⟨e0, he0⟩ := ents_of h0 l0 rfl
  obtain ⟨i1, e1, k1, ov1, rfl, hi1, he1⟩ := more_of h1 l1 hz1
  clear hA0 hval0
  refine (lift_calls (law16_CountsFollows (full W) _ _ i1 e1 k1 e0 he0 hi1 he1)).mono fun e W' ⟨he, bel⟩ => ?_
  subst he
  exact ⟨_, rfl, _, _, _, [], _, [], hW', trodAll_mk1 (shut_bool Tryz.underlying4 _), (trodAll_cons_mk (Below.trod laidOut (by kernel_rfl) (of_decide_eq_true (by kernel_rfl)) h0 bel lt0) (trodAll_cons_mk (Below.trod laidOut (by kernel_rfl) (of_decide_eq_true (by kernel_rfl)) h1 bel lt1) trodAll_mk0)), rfl, bel.frame _, fun h => by cases h⟩

theorem cf0 : (Rows.countsFollowsRow.wf (OpenSpec.ofChange Rows.countsFollowsSpec)) = true := by kernel_rfl
theorem cf1 : (laidOutB Tryz.prog) = true := rc1
theorem cf2 : (mapsRowed Tryz.prog) = true := rc2
theorem cf3 : (Tryz.f6.params.all (Tryz.prog.readableRec ·)) = true := by kernel_rfl
theorem cf4 : (namedTie Tryz.prog Rows.countsFollowsRow.named Rows.countsFollowsSpec.vars) = true := by kernel_rfl
theorem cf5 : ((Rows.countsFollowsRow.stops == [])) = true := by kernel_rfl
theorem cf6 : ((Tryz.prog.stops == [])) = true := rc6
theorem cf7 : ((Rows.countsFollowsRow.knobs == [])) = true := by kernel_rfl
theorem cf8 : ((Tryz.prog.stopKnobs == [])) = true := rc8
theorem cf9 : ((Rows.countsFollowsRow.inPlace == Tryz.prog.inPlace 6)) = true := by kernel_rfl
theorem cf10 : ((Rows.countsFollowsRow.unfollowed == Tryz.prog.unfollowed 6)) = true := by kernel_rfl
theorem cf11 : ((Rows.countsFollowsRow.recurses == Tryz.prog.recurses 6)) = true := by kernel_rfl
theorem cf12 : ((Rows.countsFollowsRow.named == Tryz.prog.varsNamed 6)) = true := by kernel_rfl
theorem cf13 : ((Rows.countsFollowsRow.maps == (Tryz.f6.params.toList ++ Rows.countsFollowsSpec.plain.varTypes Tryz.prog).any (Tryz.prog.mapsRec ·))) = true := by kernel_rfl
theorem cf14 : ((Rows.countsFollowsRow.ifaces == (Tryz.f6.params.toList ++ Rows.countsFollowsSpec.plain.varTypes Tryz.prog).any (Tryz.prog.ifacesRec ·))) = true := by kernel_rfl
theorem cf15 : ((Rows.countsFollowsRow.mapsOut == Tryz.prog.mapsAmong Tryz.f6.resultTypes.toList)) = true := by kernel_rfl
theorem cf16 : ((Rows.countsFollowsRow.loops == (Tryz.f6.params.toList ++ Rows.countsFollowsSpec.plain.varTypes Tryz.prog).any (Tryz.prog.loopsFrom ·))) = true := by kernel_rfl
theorem cf17 : ((Rows.countsFollowsRow.wideKeys == (Tryz.f6.params.toList ++ Rows.countsFollowsSpec.plain.varTypes Tryz.prog ++ Tryz.f6.resultTypes.toList).any (Tryz.prog.wideKeysFrom ·))) = true := by kernel_rfl
theorem cf18 : (Rows.countsFollowsSpec.vars.all (Tryz.prog.varReadable ·)) = true := by kernel_rfl
theorem cf19 : (Tryz.f6.resultTypes.all (fun t => Tryz.prog.readableRec t && decide (t < Tryz.prog.types.size))) = true := by kernel_rfl
theorem cf20 : ((Rows.countsFollowsRow.ifacesOut == Tryz.f6.resultTypes.toList.any (Tryz.prog.ifacesRec ·))) = true := by kernel_rfl
theorem cf21 : ((Rows.countsFollowsRow.loopsOut == Tryz.f6.resultTypes.toList.any (Tryz.prog.loopsFrom ·))) = true := by kernel_rfl
theorem cf22 : ((Rows.countsFollowsRow.plainKeys == Tryz.prog.plainKeys)) = true := rc22
theorem cf23 : (Rows.countsFollowsRow.shortTexts.isNone) = true := by kernel_rfl
theorem cf24 : (Tryz.prog.stopsHeard) = true := rc24
theorem cf25 : (Tryz.prog.mayEnter) = true := rc25
theorem cf26 : ((Rows.countsFollowsRow.lifted == Tryz.prog.liftsFinal)) = true := rc26
theorem cf27 : ((Tryz.prog.make == some Rows.countsFollowsRow.make)) = true := rc27
theorem cf28 : ((Rows.countsFollowsRow.kinds == (if Rows.countsFollowsRow.domain.isEmpty then [] else Tryz.f6.params.toList.map fun t => match Tryz.prog.underlying t with | some (.int k) => some k | _ => none))) = true := by kernel_rfl
theorem cf29 : ((Rows.countsFollowsRow.pinned == Rows.countsFollowsRow.pinnedBy)) = true := by kernel_rfl
theorem cf30 : ((Rows.countsFollowsRow.veiled == (Tryz.f6.params.toList ++ Rows.countsFollowsSpec.plain.varTypes Tryz.prog ++ Tryz.f6.resultTypes.toList).any (Tryz.prog.veiledRec ·))) = true := by kernel_rfl
theorem cf31 : (Rows.countsFollowsRow.veiledFits Tryz.prog Tryz.f6.params.toList (Tryz.f6.params.toList ++ Rows.countsFollowsSpec.plain.varTypes Tryz.prog ++ Tryz.f6.resultTypes.toList)) = true := by kernel_rfl
theorem cfClosed : joinedFacts Tryz.prog 6 Tryz.f6 Rows.countsFollowsSpec Rows.countsFollowsRow = true := by
  unfold joinedFacts
  exact (and_t (and_t (and_t (and_t (and_t (and_t (and_t (and_t (and_t (and_t (and_t (and_t (and_t (and_t (and_t (and_t (and_t (and_t (and_t (and_t (and_t (and_t (and_t (and_t (and_t (and_t (and_t (and_t (and_t (and_t (and_t cf0 cf1) cf2) cf3) cf4) cf5) cf6) cf7) cf8) cf9) cf10) cf11) cf12) cf13) cf14) cf15) cf16) cf17) cf18) cf19) cf20) cf21) cf22) cf23) cf24) cf25) cf26) cf27) cf28) cf29) cf30) cf31)
theorem overCountsFollows : Rows.countsFollowsRow.holds Tryz.pinned (OpenSpec.ofChange Rows.countsFollowsSpec) :=
  OpenClaim.holds_of_wide 6 Tryz.f6 rfl rfl rfl rfl rfl rfl rfl ⟨rfl, rfl, rfl, rfl, rfl⟩ rfl rfl rfl rfl rfl (by kernel_rfl) Tryz.func6 cfClosed
    (of_decide_eq_true (by kernel_rfl)) (by unfold Func.isWrapper; first | (rw [if_pos (by decide +kernel)]; kernel_rfl) | (rw [if_neg (by decide +kernel)]; exact ⟨rfl, rfl⟩))
    (fun os started H enc _ => liftedCountsFollows os started H enc)

theorem countsFollows_holds : Rows.CountsFollowsSaid := overCountsFollows
#print axioms countsFollows_holds
end Go.Proofs.YtgoooilgmabkmaaGreat
