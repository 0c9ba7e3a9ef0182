/-
  pleachlaw16.CountsValues: for every list of entries, all heads and all keys, the law answers true; what it reads stays as it was.
-/
import Derived.Test.YtgoooilgmabkmaaGreatCf
set_option linter.unusedVariables false
set_option linter.unusedSimpArgs false
set_option linter.unusedSectionVars false
namespace Go.Proofs.YtgoooilgmabkmaaGreat
open Go Go.Sl
open Go.ChangeShapes Go.WideShapes Go.ChangeAt Go.RowKit
set_option linter.unusedVariables false
set_option maxRecDepth 100000

section
variable {H : Type} {enc : TypeId × Value → H} {W : World}
theorem hashes_of {v : Value} {d : DataW H} {p : List MemPlace} (h : DataW.Trod enc Tryz.prog W 0 (fun _ => true) true 41 v d p) (hl : Lite Tryz.prog 41 d) (hv : v.cells = #[v]) : ∃ l, Hashes (full W) v l := by
  obtain ⟨fuel, hf⟩ := h
  obtain ⟨l, _, sv, h1, h2⟩ := rd_hashes fuel _ d p hf hl (by rw [hv]; kernel_rfl)
  rw [hv] at h1
  cases h1
  exact ⟨l, h2⟩
theorem lite3 {t0 t1 t2 : TypeId} {d0 d1 d2 : DataW H} {gt : List TypeId} {gs : List (DataW H)} (h : (DataW.weightsEach Tryz.prog (t0 :: t1 :: t2 :: gt) (d0 :: d1 :: d2 :: gs)).all (· ≤ reachBytes) = true) : Lite Tryz.prog t0 d0 ∧ Lite Tryz.prog t1 d1 ∧ Lite Tryz.prog t2 d2 := by
  rw [List.all_eq_true] at h
  simp only [DataW.weightsEach, List.mem_append] at h
  exact ⟨fun x hx => by simpa using h x (.inl hx), fun x hx => by simpa using h x (.inr (.inl hx)), fun x hx => by simpa using h x (.inr (.inr (.inl hx)))⟩
end
theorem liftedCountsValues (os : Os) (started : os.Started) (H : Type) (enc : TypeId × Value → H) :
    ReturnsInHanded {} Tryz.checked os 10 .any (Rows.countsValuesSpec.pre6 enc Tryz.prog Tryz.f10 Rows.countsValuesRow.domain false) (Rows.countsValuesSpec.post enc Tryz.prog Tryz.f10 false true false false) := by
  refine returnsInHanded_of_change_sized (C := Tryz.checked) own started (by kernel_rfl) Tryz.func10
    (ChangeSpec.witness6 (enc := enc) (C := Tryz.checked) false ⟨#[], #[.slice none 0 0, .slice none 0 0, .slice none 0 0], []⟩ 8 (by kernel_rfl) (by kernel_rfl) (by kernel_rfl) (by kernel_rfl)) ?_
  intro W base args ds gs before hval0 hW hcnd hsz _
  have hval : ∀ (j : Nat) t v, Tryz.f10.params[j]? = some t → args[j]? = some v → Value.okWide Tryz.prog W .any base t v := hval0
  have hW' := hW
  obtain ⟨p, q, hA0, hV, rfl, hfz, hnd⟩ := hW
  have hA : DataW.TrodAll enc Tryz.prog W 0 (fun _ => true) true Tryz.f10.params.toList args.toList ds p := hA0
  have hsz' : (DataW.weightsEach Tryz.prog (Tryz.f10.params.toList ++ Rows.countsValuesSpec.plain.varTypes Tryz.prog) (ds ++ gs)).all (· ≤ reachBytes) = true := hsz
  rw [Tryz.params10] at hA hval hsz'
  obtain ⟨v0, vs0, d0, ds0, p0, q0, hargs, rfl, rfl, h0, r0⟩ := trodAll_cons hA
  obtain ⟨v1, vs1, d1, ds1, p1, q1, rfl, rfl, rfl, h1, r1⟩ := trodAll_cons r0
  obtain ⟨v2, vs2, d2, ds2, p2, q2, rfl, rfl, rfl, h2, r2⟩ := trodAll_cons r1
  obtain ⟨rfl, rfl, rfl⟩ := trodAll_nil r2
  obtain rfl : args = #[v0, v1, v2] := by cases args; simp_all
  obtain ⟨rfl, rfl⟩ := trodVars_none hV
  obtain ⟨a0, len0, cap0, rfl⟩ := okWide_slice Tryz.underlying22 (hval 0 22 v0 rfl rfl)
  obtain ⟨a1, len1, cap1, rfl⟩ := okWide_slice Tryz.underlying41 (hval 1 41 v1 rfl rfl)
  obtain ⟨a2, len2, cap2, rfl⟩ := okWide_slice Tryz.underlying23 (hval 2 23 v2 rfl rfl)
  have lt0 : ∀ x ∈ p0, x.block < W.heap.size := by obtain ⟨m, hm⟩ := h0; exact DataW.trod_lt m _ _ _ hm
  have lt1 : ∀ x ∈ p1, x.block < W.heap.size := by obtain ⟨m, hm⟩ := h1; exact DataW.trod_lt m _ _ _ hm
  have lt2 : ∀ x ∈ p2, x.block < W.heap.size := by obtain ⟨m, hm⟩ := h2; exact DataW.trod_lt m _ _ _ hm
  obtain ⟨l0, l1, l2⟩ := lite3 (gt := Rows.countsValuesSpec.plain.varTypes Tryz.prog) (gs := []) hsz'
  obtain ⟨e0, he0⟩ := ents_of h0 l0 rfl
  obtain ⟨e1, he1⟩ := hashes_of h1 l1 rfl
  obtain ⟨e2, he2⟩ := strs_of h2 l2 rfl
  clear hA0 hval0
  refine (lift_calls (law16_CountsValues (full W) _ _ _ e0 e1 e2 he0 he1 he2)).mono fun e W' ⟨he, bel⟩ => ?_
  subst he
  exact ⟨_, rfl, _, _, _, [], _, [], hW', trodAll_mk1 (shut_bool Tryz.underlying4 _), (trodAll_cons_mk (Below.trod laidOut (by kernel_rfl) (of_decide_eq_true (by kernel_rfl)) h0 bel lt0) (trodAll_cons_mk (Below.trod laidOut (by kernel_rfl) (of_decide_eq_true (by kernel_rfl)) h1 bel lt1) (trodAll_cons_mk (Below.trod laidOut (by kernel_rfl) (of_decide_eq_true (by kernel_rfl)) h2 bel lt2) trodAll_mk0))), rfl, bel.frame _, fun h => by cases h⟩

theorem cv0 : (Rows.countsValuesRow.wf (OpenSpec.ofChange Rows.countsValuesSpec)) = true := by kernel_rfl
theorem cv1 : (laidOutB Tryz.prog) = true := rc1
theorem cv2 : (mapsRowed Tryz.prog) = true := rc2
theorem cv3 : (Tryz.f10.params.all (Tryz.prog.readableRec ·)) = true := by kernel_rfl
theorem cv4 : (namedTie Tryz.prog Rows.countsValuesRow.named Rows.countsValuesSpec.vars) = true := by kernel_rfl
theorem cv5 : ((Rows.countsValuesRow.stops == [])) = true := by kernel_rfl
theorem cv6 : ((Tryz.prog.stops == [])) = true := rc6
theorem cv7 : ((Rows.countsValuesRow.knobs == [])) = true := by kernel_rfl
theorem cv8 : ((Tryz.prog.stopKnobs == [])) = true := rc8
theorem cv9 : ((Rows.countsValuesRow.inPlace == Tryz.prog.inPlace 10)) = true := by kernel_rfl
theorem cv10 : ((Rows.countsValuesRow.unfollowed == Tryz.prog.unfollowed 10)) = true := by kernel_rfl
theorem cv11 : ((Rows.countsValuesRow.recurses == Tryz.prog.recurses 10)) = true := by kernel_rfl
theorem cv12 : ((Rows.countsValuesRow.named == Tryz.prog.varsNamed 10)) = true := by kernel_rfl
theorem cv13 : ((Rows.countsValuesRow.maps == (Tryz.f10.params.toList ++ Rows.countsValuesSpec.plain.varTypes Tryz.prog).any (Tryz.prog.mapsRec ·))) = true := by kernel_rfl
theorem cv14 : ((Rows.countsValuesRow.ifaces == (Tryz.f10.params.toList ++ Rows.countsValuesSpec.plain.varTypes Tryz.prog).any (Tryz.prog.ifacesRec ·))) = true := by kernel_rfl
theorem cv15 : ((Rows.countsValuesRow.mapsOut == Tryz.prog.mapsAmong Tryz.f10.resultTypes.toList)) = true := by kernel_rfl
theorem cv16 : ((Rows.countsValuesRow.loops == (Tryz.f10.params.toList ++ Rows.countsValuesSpec.plain.varTypes Tryz.prog).any (Tryz.prog.loopsFrom ·))) = true := by kernel_rfl
theorem cv17 : ((Rows.countsValuesRow.wideKeys == (Tryz.f10.params.toList ++ Rows.countsValuesSpec.plain.varTypes Tryz.prog ++ Tryz.f10.resultTypes.toList).any (Tryz.prog.wideKeysFrom ·))) = true := by kernel_rfl
theorem cv18 : (Rows.countsValuesSpec.vars.all (Tryz.prog.varReadable ·)) = true := by kernel_rfl
theorem cv19 : (Tryz.f10.resultTypes.all (fun t => Tryz.prog.readableRec t && decide (t < Tryz.prog.types.size))) = true := by kernel_rfl
theorem cv20 : ((Rows.countsValuesRow.ifacesOut == Tryz.f10.resultTypes.toList.any (Tryz.prog.ifacesRec ·))) = true := by kernel_rfl
theorem cv21 : ((Rows.countsValuesRow.loopsOut == Tryz.f10.resultTypes.toList.any (Tryz.prog.loopsFrom ·))) = true := by kernel_rfl
theorem cv22 : ((Rows.countsValuesRow.plainKeys == Tryz.prog.plainKeys)) = true := rc22
theorem cv23 : (Rows.countsValuesRow.shortTexts.isNone) = true := by kernel_rfl
theorem cv24 : (Tryz.prog.stopsHeard) = true := rc24
theorem cv25 : (Tryz.prog.mayEnter) = true := rc25
theorem cv26 : ((Rows.countsValuesRow.lifted == Tryz.prog.liftsFinal)) = true := rc26
theorem cv27 : ((Tryz.prog.make == some Rows.countsValuesRow.make)) = true := rc27
theorem cv28 : ((Rows.countsValuesRow.kinds == (if Rows.countsValuesRow.domain.isEmpty then [] else Tryz.f10.params.toList.map fun t => match Tryz.prog.underlying t with | some (.int k) => some k | _ => none))) = true := by kernel_rfl
theorem cv29 : ((Rows.countsValuesRow.pinned == Rows.countsValuesRow.pinnedBy)) = true := by kernel_rfl
theorem cv30 : ((Rows.countsValuesRow.veiled == (Tryz.f10.params.toList ++ Rows.countsValuesSpec.plain.varTypes Tryz.prog ++ Tryz.f10.resultTypes.toList).any (Tryz.prog.veiledRec ·))) = true := by kernel_rfl
theorem cv31 : (Rows.countsValuesRow.veiledFits Tryz.prog Tryz.f10.params.toList (Tryz.f10.params.toList ++ Rows.countsValuesSpec.plain.varTypes Tryz.prog ++ Tryz.f10.resultTypes.toList)) = true := by kernel_rfl
theorem cvClosed : joinedFacts Tryz.prog 10 Tryz.f10 Rows.countsValuesSpec Rows.countsValuesRow = true := by
  unfold joinedFacts
  exact (and_t (and_t (and_t (and_t (and_t (and_t (and_t (and_t (and_t (and_t (and_t (and_t (and_t (and_t (and_t (and_t (and_t (and_t (and_t (and_t (and_t (and_t (and_t (and_t (and_t (and_t (and_t (and_t (and_t (and_t (and_t cv0 cv1) cv2) cv3) cv4) cv5) cv6) cv7) cv8) cv9) cv10) cv11) cv12) cv13) cv14) cv15) cv16) cv17) cv18) cv19) cv20) cv21) cv22) cv23) cv24) cv25) cv26) cv27) cv28) cv29) cv30) cv31)
theorem overCountsValues : Rows.countsValuesRow.holds Tryz.pinned (OpenSpec.ofChange Rows.countsValuesSpec) :=
  OpenClaim.holds_of_wide 10 Tryz.f10 rfl rfl rfl rfl rfl rfl rfl ⟨rfl, rfl, rfl, rfl, rfl⟩ rfl rfl rfl rfl rfl (by kernel_rfl) Tryz.func10 cvClosed
    (of_decide_eq_true (by kernel_rfl)) (by unfold Func.isWrapper; first | (rw [if_pos (by decide +kernel)]; kernel_rfl) | (rw [if_neg (by decide +kernel)]; exact ⟨rfl, rfl⟩))
    (fun os started H enc _ => liftedCountsValues os started H enc)

theorem countsValues_holds : Rows.CountsValuesSaid := overCountsValues
#print axioms countsValues_holds
end Go.Proofs.YtgoooilgmabkmaaGreat
