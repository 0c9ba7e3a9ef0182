/-
  RegFollows returns true for every input that the row reads, and leaves its arguments as they were; no condition beyond the row's own.
-/
import Derived.Test.YtgoooilgmabkmaaGreatCf
set_option linter.unusedVariables false
set_option linter.unusedSimpArgs false
set_option linter.unusedSectionVars false
namespace Go.Proofs.YtgoooilgmabkmaaGreat
open Go Go.Sl
open Go.ChangeShapes Go.WideShapes Go.ChangeAt Go.RowKit
set_option linter.unusedVariables false
set_option maxRecDepth 100000

theorem okWide_arr {P : Program} {w : World} {r : Reach} {base n e : Nat} {t : TypeId} {v : Value} (ht : P.underlying t = some (.array n e)) (h : Value.okWide P w r base t v) : ∃ cs, v = .agg cs ∧ cs.size = P.cellsOf t := by
  simp only [Value.okWide, ht] at h
  obtain ⟨cs, h1, h2, _⟩ := h
  exact ⟨cs, h1, h2⟩
section
variable {H : Type} {enc : TypeId × Value → H} {W : World}
theorem hash_of {cs : Array Value} {d : DataW H} {p : List MemPlace} (h : DataW.Trod enc Tryz.prog W 0 (fun _ => true) true 39 (.agg cs) d p) (hl : Lite Tryz.prog 39 d) (hz : cs.size = Tryz.prog.cellsOf 39) : ∃ x, cs = (hashCells x).toArray ∧ IsH x := by
  obtain ⟨fuel, hf⟩ := h
  obtain ⟨x, _, h1, h2⟩ := rd_hash fuel _ d p hf hl (by rw [← hz]; exact Array.length_toList)
  refine ⟨x, ?_, h2⟩
  have h3 : cs.toList = hashCells x := h1
  rw [← h3]
theorem ops_of {v : Value} {d : DataW H} {p : List MemPlace} (h : DataW.Trod enc Tryz.prog W 0 (fun _ => true) true 40 v d p) (hl : Lite Tryz.prog 40 d) (hv : v.cells = #[v]) : ∃ l, SlE (full W) eOp 37 88 v l := by
  obtain ⟨fuel, hf⟩ := h
  obtain ⟨l, _, sv, h1, h2⟩ := rd_ops fuel _ d p hf hl (by rw [hv]; kernel_rfl)
  rw [hv] at h1
  cases h1
  exact ⟨l, h2⟩
theorem lite3 {t0 t1 t2 : TypeId} {d0 d1 d2 : DataW H} {gt : List TypeId} {gs : List (DataW H)} (h : (DataW.weightsEach Tryz.prog (t0 :: t1 :: t2 :: gt) (d0 :: d1 :: d2 :: gs)).all (· ≤ reachBytes) = true) : Lite Tryz.prog t0 d0 ∧ Lite Tryz.prog t1 d1 ∧ Lite Tryz.prog t2 d2 := by
  rw [List.all_eq_true] at h
  simp only [DataW.weightsEach, List.mem_append] at h
  exact ⟨fun x hx => by simpa using h x (.inl hx), fun x hx => by simpa using h x (.inr (.inl hx)), fun x hx => by simpa using h x (.inr (.inr (.inl hx)))⟩
end
theorem liftedRegFollows (os : Os) (started : os.Started) (H : Type) (enc : TypeId × Value → H) :
    ReturnsInHanded {} Tryz.checked os 4 .any (Rows.regFollowsSpec.pre6 enc Tryz.prog Tryz.f4 Rows.regFollowsRow.domain false) (Rows.regFollowsSpec.post enc Tryz.prog Tryz.f4 false true false false) := by
  refine returnsInHanded_of_change_sized (C := Tryz.checked) own started (by kernel_rfl) Tryz.func4
    (ChangeSpec.witness6 (enc := enc) (C := Tryz.checked) false ⟨#[], #[.slice none 0 0, .agg (Array.replicate 32 (.int .u8 0)), .slice none 0 0], []⟩ 8 (by kernel_rfl) (by kernel_rfl) (by kernel_rfl) (by kernel_rfl)) ?_
  intro W base args ds gs before hval0 hW hcnd hsz _
  have hval : ∀ (j : Nat) t v, Tryz.f4.params[j]? = some t → args[j]? = some v → Value.okWide Tryz.prog W .any base t v := hval0
  have hW' := hW
  obtain ⟨p, q, hA0, hV, rfl, hfz, hnd⟩ := hW
  have hA : DataW.TrodAll enc Tryz.prog W 0 (fun _ => true) true Tryz.f4.params.toList args.toList ds p := hA0
  have hsz' : (DataW.weightsEach Tryz.prog (Tryz.f4.params.toList ++ Rows.regFollowsSpec.plain.varTypes Tryz.prog) (ds ++ gs)).all (· ≤ reachBytes) = true := hsz
  rw [Tryz.params4] at hA hval hsz'
  obtain ⟨v0, vs0, d0, ds0, p0, q0, hargs, rfl, rfl, h0, r0⟩ := trodAll_cons hA
  obtain ⟨v1, vs1, d1, ds1, p1, q1, rfl, rfl, rfl, h1, r1⟩ := trodAll_cons r0
  obtain ⟨v2, vs2, d2, ds2, p2, q2, rfl, rfl, rfl, h2, r2⟩ := trodAll_cons r1
  obtain ⟨rfl, rfl, rfl⟩ := trodAll_nil r2
  obtain rfl : args = #[v0, v1, v2] := by cases args; simp_all
  obtain ⟨rfl, rfl⟩ := trodVars_none hV
  obtain ⟨a0, len0, cap0, rfl⟩ := okWide_slice Tryz.underlying22 (hval 0 22 v0 rfl rfl)
  obtain ⟨cs1, rfl, hz1⟩ := okWide_arr Tryz.underlying39 (hval 1 39 v1 rfl rfl)
  obtain ⟨a2, len2, cap2, rfl⟩ := okWide_slice Tryz.underlying40 (hval 2 40 v2 rfl rfl)
  have lt0 : ∀ x ∈ p0, x.block < W.heap.size := by obtain ⟨m, hm⟩ := h0; exact DataW.trod_lt m _ _ _ hm
  have lt1 : ∀ x ∈ p1, x.block < W.heap.size := by obtain ⟨m, hm⟩ := h1; exact DataW.trod_lt m _ _ _ hm
  have lt2 : ∀ x ∈ p2, x.block < W.heap.size := by obtain ⟨m, hm⟩ := h2; exact DataW.trod_lt m _ _ _ hm
  obtain ⟨l0, l1, l2⟩ := lite3 (gt := Rows.regFollowsSpec.plain.varTypes Tryz.prog) (gs := []) hsz'
  obtain ⟨e0, he0⟩ := ents_of h0 l0 rfl
  obtain ⟨e1, rfl, he1⟩ := hash_of h1 l1 hz1
  obtain ⟨e2, he2⟩ := ops_of h2 l2 rfl
  clear hA0 hval0
  refine (lift_calls (law14_RegFollows (full W) _ _ e1 e2 e0 he0 he1 he2)).mono fun e W' ⟨he, bel⟩ => ?_
  subst he
  exact ⟨_, rfl, _, _, _, [], _, [], hW', trodAll_mk1 (shut_bool Tryz.underlying4 _), (trodAll_cons_mk (Below.trod laidOut (by kernel_rfl) (of_decide_eq_true (by kernel_rfl)) h0 bel lt0) (trodAll_cons_mk (Below.trod laidOut (by kernel_rfl) (of_decide_eq_true (by kernel_rfl)) h1 bel lt1) (trodAll_cons_mk (Below.trod laidOut (by kernel_rfl) (of_decide_eq_true (by kernel_rfl)) h2 bel lt2) trodAll_mk0))), rfl, bel.frame _, fun h => by cases h⟩

theorem rf0 : (Rows.regFollowsRow.wf (OpenSpec.ofChange Rows.regFollowsSpec)) = true := by kernel_rfl
theorem rf1 : (laidOutB Tryz.prog) = true := rc1
theorem rf2 : (mapsRowed Tryz.prog) = true := rc2
theorem rf3 : (Tryz.f4.params.all (Tryz.prog.readableRec ·)) = true := by kernel_rfl
theorem rf4 : (namedTie Tryz.prog Rows.regFollowsRow.named Rows.regFollowsSpec.vars) = true := by kernel_rfl
theorem rf5 : ((Rows.regFollowsRow.stops == [])) = true := by kernel_rfl
theorem rf6 : ((Tryz.prog.stops == [])) = true := rc6
theorem rf7 : ((Rows.regFollowsRow.knobs == [])) = true := by kernel_rfl
theorem rf8 : ((Tryz.prog.stopKnobs == [])) = true := rc8
theorem rf9 : ((Rows.regFollowsRow.inPlace == Tryz.prog.inPlace 4)) = true := by kernel_rfl
theorem rf10 : ((Rows.regFollowsRow.unfollowed == Tryz.prog.unfollowed 4)) = true := by kernel_rfl
theorem rf11 : ((Rows.regFollowsRow.recurses == Tryz.prog.recurses 4)) = true := by kernel_rfl
theorem rf12 : ((Rows.regFollowsRow.named == Tryz.prog.varsNamed 4)) = true := by kernel_rfl
theorem rf13 : ((Rows.regFollowsRow.maps == (Tryz.f4.params.toList ++ Rows.regFollowsSpec.plain.varTypes Tryz.prog).any (Tryz.prog.mapsRec ·))) = true := by kernel_rfl
theorem rf14 : ((Rows.regFollowsRow.ifaces == (Tryz.f4.params.toList ++ Rows.regFollowsSpec.plain.varTypes Tryz.prog).any (Tryz.prog.ifacesRec ·))) = true := by kernel_rfl
theorem rf15 : ((Rows.regFollowsRow.mapsOut == Tryz.prog.mapsAmong Tryz.f4.resultTypes.toList)) = true := by kernel_rfl
theorem rf16 : ((Rows.regFollowsRow.loops == (Tryz.f4.params.toList ++ Rows.regFollowsSpec.plain.varTypes Tryz.prog).any (Tryz.prog.loopsFrom ·))) = true := by kernel_rfl
theorem rf17 : ((Rows.regFollowsRow.wideKeys == (Tryz.f4.params.toList ++ Rows.regFollowsSpec.plain.varTypes Tryz.prog ++ Tryz.f4.resultTypes.toList).any (Tryz.prog.wideKeysFrom ·))) = true := by kernel_rfl
theorem rf18 : (Rows.regFollowsSpec.vars.all (Tryz.prog.varReadable ·)) = true := by kernel_rfl
theorem rf19 : (Tryz.f4.resultTypes.all (fun t => Tryz.prog.readableRec t && decide (t < Tryz.prog.types.size))) = true := by kernel_rfl
theorem rf20 : ((Rows.regFollowsRow.ifacesOut == Tryz.f4.resultTypes.toList.any (Tryz.prog.ifacesRec ·))) = true := by kernel_rfl
theorem rf21 : ((Rows.regFollowsRow.loopsOut == Tryz.f4.resultTypes.toList.any (Tryz.prog.loopsFrom ·))) = true := by kernel_rfl
theorem rf22 : ((Rows.regFollowsRow.plainKeys == Tryz.prog.plainKeys)) = true := rc22
theorem rf23 : (Rows.regFollowsRow.shortTexts.isNone) = true := by kernel_rfl
theorem rf24 : (Tryz.prog.stopsHeard) = true := rc24
theorem rf25 : (Tryz.prog.mayEnter) = true := rc25
theorem rf26 : ((Rows.regFollowsRow.lifted == Tryz.prog.liftsFinal)) = true := rc26
theorem rf27 : ((Tryz.prog.make == some Rows.regFollowsRow.make)) = true := rc27
theorem rf28 : ((Rows.regFollowsRow.kinds == (if Rows.regFollowsRow.domain.isEmpty then [] else Tryz.f4.params.toList.map fun t => match Tryz.prog.underlying t with | some (.int k) => some k | _ => none))) = true := by kernel_rfl
theorem rf29 : ((Rows.regFollowsRow.pinned == Rows.regFollowsRow.pinnedBy)) = true := by kernel_rfl
theorem rf30 : ((Rows.regFollowsRow.veiled == (Tryz.f4.params.toList ++ Rows.regFollowsSpec.plain.varTypes Tryz.prog ++ Tryz.f4.resultTypes.toList).any (Tryz.prog.veiledRec ·))) = true := by kernel_rfl
theorem rf31 : (Rows.regFollowsRow.veiledFits Tryz.prog Tryz.f4.params.toList (Tryz.f4.params.toList ++ Rows.regFollowsSpec.plain.varTypes Tryz.prog ++ Tryz.f4.resultTypes.toList)) = true := by kernel_rfl
theorem rfClosed : joinedFacts Tryz.prog 4 Tryz.f4 Rows.regFollowsSpec Rows.regFollowsRow = true := by
  unfold joinedFacts
  exact (and_t (and_t (and_t (and_t (and_t (and_t (and_t (and_t (and_t (and_t (and_t (and_t (and_t (and_t (and_t (and_t (and_t (and_t (and_t (and_t (and_t (and_t (and_t (and_t (and_t (and_t (and_t (and_t (and_t (and_t (and_t rf0 rf1) rf2) rf3) rf4) rf5) rf6) rf7) rf8) rf9) rf10) rf11) rf12) rf13) rf14) rf15) rf16) rf17) rf18) rf19) rf20) rf21) rf22) rf23) rf24) rf25) rf26) rf27) rf28) rf29) rf30) rf31)
theorem overRegFollows : Rows.regFollowsRow.holds Tryz.pinned (OpenSpec.ofChange Rows.regFollowsSpec) :=
  OpenClaim.holds_of_wide 4 Tryz.f4 rfl rfl rfl rfl rfl rfl rfl ⟨rfl, rfl, rfl, rfl, rfl⟩ rfl rfl rfl rfl rfl (by kernel_rfl) Tryz.func4 rfClosed
    (of_decide_eq_true (by kernel_rfl)) (by unfold Func.isWrapper; first | (rw [if_pos (by decide +kernel)]; kernel_rfl) | (rw [if_neg (by decide +kernel)]; exact ⟨rfl, rfl⟩))
    (fun os started H enc _ => liftedRegFollows os started H enc)

theorem regFollows_holds : Rows.RegFollowsSaid := overRegFollows
#print axioms regFollows_holds
end Go.Proofs.YtgoooilgmabkmaaGreat
