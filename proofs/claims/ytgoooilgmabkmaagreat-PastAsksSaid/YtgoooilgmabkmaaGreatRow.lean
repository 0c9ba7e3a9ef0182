/-
  pleachlaw11.PastAsks: for every list of entries and every list of asks the law answers true; what it reads stays as it was.
-/
import Derived.Test.YtgoooilgmabkmaaGreatCg
set_option linter.unusedVariables false
set_option linter.unusedSimpArgs false
set_option linter.unusedSectionVars false
namespace Go.Proofs.YtgoooilgmabkmaaGreat
open Go Go.Sl
open Go.ChangeShapes Go.WideShapes Go.ChangeAt Go.RowKit
set_option linter.unusedVariables false
set_option maxRecDepth 100000

section
variable {H : Type} {enc : TypeId × Value → H} {W : World}
theorem c102 : Tryz.prog.cellsOf 102 = 4 := by kernel_rfl
theorem y102 : Tryz.prog.bytesOf 102 = 64 := by kernel_rfl
theorem rd_ask : Reads enc Tryz.prog W 102 eAsk := by
  intro fuel cs d ps h hl hlen
  rw [c102] at hlen
  obtain ⟨p, _, pv, p2, p3⟩ := Reads.field (off := 0) Tryz.underlying102 h hl 0 rfl rfl c41 (by omega) rd_hashes
  obtain ⟨o, _, ov, o2, o3⟩ := Reads.field (off := 1) Tryz.underlying102 h hl 1 rfl rfl c41 (by omega) rd_hashes
  obtain ⟨a, _, a2, a3⟩ := Reads.field (off := 2) Tryz.underlying102 h hl 2 rfl rfl c3 (by omega) rd_i64
  obtain ⟨b, _, b2, b3⟩ := Reads.field (off := 3) Tryz.underlying102 h hl 3 rfl rfl c3 (by omega) rd_i64
  have e := cutC (cs := cs) (off := 0) (sz := 1) (cutC (off := 1) (sz := 1) (cutC (off := 2) (sz := 1) (cutC (off := 3) (sz := 1) (List.drop_of_length_le (by omega)))))
  rw [List.drop_zero] at e p2
  rw [p2, o2, a2, b2] at e
  refine ⟨⟨p, o, a, b⟩, ?_, pv, ov, e, p3, o3, a3, b3⟩
  obtain ⟨pa, pc, rfl, _⟩ := p3.shape
  obtain ⟨oa, oc, rfl, _⟩ := o3.shape
  rw [e]
  rfl
theorem rd_asks : Reads enc Tryz.prog W 100 (fun σ (l : List AskD) vs => ∃ sv, vs = [sv] ∧ Asks σ sv l) := by
  have h := Reads.slice (enc := enc) (W := W) (byt := 64) Tryz.underlying100 (by rw [c102]; decide) (by rw [y102]; decide) rd_ask
  rw [c102] at h
  exact h
theorem asks_of {v : Value} {d : DataW H} {p : List MemPlace} (h : DataW.Trod enc Tryz.prog W 0 (fun _ => true) true 100 v d p) (hl : Lite Tryz.prog 100 d) (hv : v.cells = #[v]) : ∃ l, Asks (full W) v l := by
  obtain ⟨fuel, hf⟩ := h
  obtain ⟨l, _, sv, h1, h2⟩ := rd_asks fuel _ d p hf hl (by rw [hv]; kernel_rfl)
  rw [hv] at h1
  cases h1
  exact ⟨l, h2⟩
end
theorem liftedPastAsks (os : Os) (started : os.Started) (H : Type) (enc : TypeId × Value → H) :
    ReturnsInHanded {} Tryz.checked os 14 .any (Rows.pastAsksSpec.pre6 enc Tryz.prog Tryz.f14 Rows.pastAsksRow.domain false) (Rows.pastAsksSpec.post enc Tryz.prog Tryz.f14 false true false false) := by
  refine returnsInHanded_of_change_sized (C := Tryz.checked) own started (by kernel_rfl) Tryz.func14
    (ChangeSpec.witness6 (enc := enc) (C := Tryz.checked) false ⟨#[], #[.slice none 0 0, .slice none 0 0], []⟩ 8 (by kernel_rfl) (by kernel_rfl) (by kernel_rfl) (by kernel_rfl)) ?_
  intro W base args ds gs before hval0 hW hcnd hsz _
  have hval : ∀ (j : Nat) t v, Tryz.f14.params[j]? = some t → args[j]? = some v → Value.okWide Tryz.prog W .any base t v := hval0
  have hW' := hW
  obtain ⟨p, q, hA0, hV, rfl, hfz, hnd⟩ := hW
  have hA : DataW.TrodAll enc Tryz.prog W 0 (fun _ => true) true Tryz.f14.params.toList args.toList ds p := hA0
  have hsz' : (DataW.weightsEach Tryz.prog (Tryz.f14.params.toList ++ Rows.pastAsksSpec.plain.varTypes Tryz.prog) (ds ++ gs)).all (· ≤ reachBytes) = true := hsz
  rw [Tryz.params14] at hA hval hsz'
  obtain ⟨v0, vs0, d0, ds0, p0, q0, hargs, rfl, rfl, h0, r0⟩ := trodAll_cons hA
  obtain ⟨v1, vs1, d1, ds1, p1, q1, rfl, rfl, rfl, h1, r1⟩ := trodAll_cons r0
  obtain ⟨rfl, rfl, rfl⟩ := trodAll_nil r1
  obtain rfl : args = #[v0, v1] := by cases args; simp_all
  obtain ⟨rfl, rfl⟩ := trodVars_none hV
  obtain ⟨a0, len0, cap0, rfl⟩ := okWide_slice Tryz.underlying22 (hval 0 22 v0 rfl rfl)
  obtain ⟨a1, len1, cap1, rfl⟩ := okWide_slice Tryz.underlying100 (hval 1 100 v1 rfl rfl)
  have lt0 : ∀ x ∈ p0, x.block < W.heap.size := by obtain ⟨m, hm⟩ := h0; exact DataW.trod_lt m _ _ _ hm
  have lt1 : ∀ x ∈ p1, x.block < W.heap.size := by obtain ⟨m, hm⟩ := h1; exact DataW.trod_lt m _ _ _ hm
  obtain ⟨l0, l1⟩ := lite2 (gt := Rows.pastAsksSpec.plain.varTypes Tryz.prog) (gs := []) hsz'
  obtain ⟨e0, he0⟩ := ents_of h0 l0 rfl
  obtain ⟨e1, he1⟩ := asks_of h1 l1 rfl
  clear hA0 hval0
  refine (lift_calls (law11_PastAsks (full W) _ _ e0 e1 he0 he1)).mono fun e W' ⟨he, bel⟩ => ?_
  subst he
  exact ⟨_, rfl, _, _, _, [], _, [], hW', trodAll_mk1 (shut_bool Tryz.underlying4 _), (trodAll_cons_mk (Below.trod laidOut (by kernel_rfl) (of_decide_eq_true (by kernel_rfl)) h0 bel lt0) (trodAll_cons_mk (Below.trod laidOut (by kernel_rfl) (of_decide_eq_true (by kernel_rfl)) h1 bel lt1) trodAll_mk0)), rfl, bel.frame _, fun h => by cases h⟩

theorem pq0 : (Rows.pastAsksRow.wf (OpenSpec.ofChange Rows.pastAsksSpec)) = true := by kernel_rfl
theorem pq1 : (laidOutB Tryz.prog) = true := rc1
theorem pq2 : (mapsRowed Tryz.prog) = true := rc2
theorem pq3 : (Tryz.f14.params.all (Tryz.prog.readableRec ·)) = true := by kernel_rfl
theorem pq4 : (namedTie Tryz.prog Rows.pastAsksRow.named Rows.pastAsksSpec.vars) = true := by kernel_rfl
theorem pq5 : ((Rows.pastAsksRow.stops == [])) = true := by kernel_rfl
theorem pq6 : ((Tryz.prog.stops == [])) = true := rc6
theorem pq7 : ((Rows.pastAsksRow.knobs == [])) = true := by kernel_rfl
theorem pq8 : ((Tryz.prog.stopKnobs == [])) = true := rc8
theorem pq9 : ((Rows.pastAsksRow.inPlace == Tryz.prog.inPlace 14)) = true := by kernel_rfl
theorem pq10 : ((Rows.pastAsksRow.unfollowed == Tryz.prog.unfollowed 14)) = true := by kernel_rfl
theorem pq11 : ((Rows.pastAsksRow.recurses == Tryz.prog.recurses 14)) = true := by kernel_rfl
theorem pq12 : ((Rows.pastAsksRow.named == Tryz.prog.varsNamed 14)) = true := by kernel_rfl
theorem pq13 : ((Rows.pastAsksRow.maps == (Tryz.f14.params.toList ++ Rows.pastAsksSpec.plain.varTypes Tryz.prog).any (Tryz.prog.mapsRec ·))) = true := by kernel_rfl
theorem pq14 : ((Rows.pastAsksRow.ifaces == (Tryz.f14.params.toList ++ Rows.pastAsksSpec.plain.varTypes Tryz.prog).any (Tryz.prog.ifacesRec ·))) = true := by kernel_rfl
theorem pq15 : ((Rows.pastAsksRow.mapsOut == Tryz.prog.mapsAmong Tryz.f14.resultTypes.toList)) = true := by kernel_rfl
theorem pq16 : ((Rows.pastAsksRow.loops == (Tryz.f14.params.toList ++ Rows.pastAsksSpec.plain.varTypes Tryz.prog).any (Tryz.prog.loopsFrom ·))) = true := by kernel_rfl
theorem pq17 : ((Rows.pastAsksRow.wideKeys == (Tryz.f14.params.toList ++ Rows.pastAsksSpec.plain.varTypes Tryz.prog ++ Tryz.f14.resultTypes.toList).any (Tryz.prog.wideKeysFrom ·))) = true := by kernel_rfl
theorem pq18 : (Rows.pastAsksSpec.vars.all (Tryz.prog.varReadable ·)) = true := by kernel_rfl
theorem pq19 : (Tryz.f14.resultTypes.all (fun t => Tryz.prog.readableRec t && decide (t < Tryz.prog.types.size))) = true := by kernel_rfl
theorem pq20 : ((Rows.pastAsksRow.ifacesOut == Tryz.f14.resultTypes.toList.any (Tryz.prog.ifacesRec ·))) = true := by kernel_rfl
theorem pq21 : ((Rows.pastAsksRow.loopsOut == Tryz.f14.resultTypes.toList.any (Tryz.prog.loopsFrom ·))) = true := by kernel_rfl
theorem pq22 : ((Rows.pastAsksRow.plainKeys == Tryz.prog.plainKeys)) = true := rc22
theorem pq23 : (Rows.pastAsksRow.shortTexts.isNone) = true := by kernel_rfl
theorem pq24 : (Tryz.prog.stopsHeard) = true := rc24
theorem pq25 : (Tryz.prog.mayEnter) = true := rc25
theorem pq26 : ((Rows.pastAsksRow.lifted == Tryz.prog.liftsFinal)) = true := rc26
theorem pq27 : ((Tryz.prog.make == some Rows.pastAsksRow.make)) = true := rc27
theorem pq28 : ((Rows.pastAsksRow.kinds == (if Rows.pastAsksRow.domain.isEmpty then [] else Tryz.f14.params.toList.map fun t => match Tryz.prog.underlying t with | some (.int k) => some k | _ => none))) = true := by kernel_rfl
theorem pq29 : ((Rows.pastAsksRow.pinned == Rows.pastAsksRow.pinnedBy)) = true := by kernel_rfl
theorem pq30 : ((Rows.pastAsksRow.veiled == (Tryz.f14.params.toList ++ Rows.pastAsksSpec.plain.varTypes Tryz.prog ++ Tryz.f14.resultTypes.toList).any (Tryz.prog.veiledRec ·))) = true := by kernel_rfl
theorem pq31 : (Rows.pastAsksRow.veiledFits Tryz.prog Tryz.f14.params.toList (Tryz.f14.params.toList ++ Rows.pastAsksSpec.plain.varTypes Tryz.prog ++ Tryz.f14.resultTypes.toList)) = true := by kernel_rfl
theorem pqClosed : joinedFacts Tryz.prog 14 Tryz.f14 Rows.pastAsksSpec Rows.pastAsksRow = true := by
  unfold joinedFacts
  exact (and_t (and_t (and_t (and_t (and_t (and_t (and_t (and_t (and_t (and_t (and_t (and_t (and_t (and_t (and_t (and_t (and_t (and_t (and_t (and_t (and_t (and_t (and_t (and_t (and_t (and_t (and_t (and_t (and_t (and_t (and_t pq0 pq1) pq2) pq3) pq4) pq5) pq6) pq7) pq8) pq9) pq10) pq11) pq12) pq13) pq14) pq15) pq16) pq17) pq18) pq19) pq20) pq21) pq22) pq23) pq24) pq25) pq26) pq27) pq28) pq29) pq30) pq31)
theorem overPastAsks : Rows.pastAsksRow.holds Tryz.pinned (OpenSpec.ofChange Rows.pastAsksSpec) :=
  OpenClaim.holds_of_wide 14 Tryz.f14 rfl rfl rfl rfl rfl rfl rfl ⟨rfl, rfl, rfl, rfl, rfl⟩ rfl rfl rfl rfl rfl (by kernel_rfl) Tryz.func14 pqClosed
    (of_decide_eq_true (by kernel_rfl)) (by unfold Func.isWrapper; first | (rw [if_pos (by decide +kernel)]; kernel_rfl) | (rw [if_neg (by decide +kernel)]; exact ⟨rfl, rfl⟩))
    (fun os started H enc _ => liftedPastAsks os started H enc)

theorem pastAsks_holds : Rows.PastAsksSaid := overPastAsks
#print axioms pastAsks_holds
end Go.Proofs.YtgoooilgmabkmaaGreat
