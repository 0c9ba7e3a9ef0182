/-
  pleachlaw11.PastOrders: for every list of entries and every permutation, the law answers true; what it reads stays as it was.
-/
import Derived.Test.YtgoooilgmabkmaaCd
set_option linter.unusedVariables false
set_option linter.unusedSimpArgs false
set_option linter.unusedSectionVars false
namespace Go.Proofs.Ytgoooilgmabkmaa
open Go Go.Sl
open Go.ChangeShapes Go.WideShapes Go.ChangeAt Go.RowKit
set_option linter.unusedVariables false
set_option maxRecDepth 100000

section
variable {H : Type} {enc : TypeId × Value → H} {W : World}
theorem y3 : Try.prog.bytesOf 3 = 8 := by kernel_rfl
theorem rd_ints : Reads enc Try.prog W 24 (fun σ (l : List Int) vs => ∃ sv, vs = [sv] ∧ SlE σ eInt 1 8 sv l) := by
  have h := Reads.slice (enc := enc) (W := W) (byt := 8) Try.underlying24 (by rw [c3]; decide) (by rw [y3]; decide) rd_i64
  rw [c3] at h
  exact h
theorem ints_of {v : Value} {d : DataW H} {p : List MemPlace} (h : DataW.Trod enc Try.prog W 0 (fun _ => true) true 24 v d p) (hl : Lite Try.prog 24 d) (hv : v.cells = #[v]) : ∃ l, SlE (full W) eInt 1 8 v l := by
  obtain ⟨fuel, hf⟩ := h
  obtain ⟨l, _, sv, h1, h2⟩ := rd_ints fuel _ d p hf hl (by rw [hv]; kernel_rfl)
  rw [hv] at h1
  cases h1
  exact ⟨l, h2⟩
end
theorem liftedPastOrders (os : Os) (started : os.Started) (H : Type) (enc : TypeId × Value → H) :
    ReturnsInHanded {} Try.checked os 4 .any (Rows.pastOrdersSpec.pre6 enc Try.prog Try.f4 Rows.pastOrdersRow.domain false) (Rows.pastOrdersSpec.post enc Try.prog Try.f4 false true false false) := by
  refine returnsInHanded_of_change_sized (C := Try.checked) own started (by kernel_rfl) Try.func4
    (ChangeSpec.witness6 (enc := enc) (C := Try.checked) false ⟨#[], #[.slice none 0 0, .slice none 0 0], []⟩ 8 (by kernel_rfl) (by kernel_rfl) (by kernel_rfl) (by kernel_rfl)) ?_
  intro W base args ds gs before hval0 hW hcnd hsz _
  have hval : ∀ (j : Nat) t v, Try.f4.params[j]? = some t → args[j]? = some v → Value.okWide Try.prog W .any base t v := hval0
  have hW' := hW
  obtain ⟨p, q, hA0, hV, rfl, hfz, hnd⟩ := hW
  have hA : DataW.TrodAll enc Try.prog W 0 (fun _ => true) true Try.f4.params.toList args.toList ds p := hA0
  have hsz' : (DataW.weightsEach Try.prog (Try.f4.params.toList ++ Rows.pastOrdersSpec.plain.varTypes Try.prog) (ds ++ gs)).all (· ≤ reachBytes) = true := hsz
  rw [Try.params4] at hA hval hsz'
  obtain ⟨v0, vs0, d0, ds0, p0, q0, hargs, rfl, rfl, h0, r0⟩ := trodAll_cons hA
  obtain ⟨v1, vs1, d1, ds1, p1, q1, rfl, rfl, rfl, h1, r1⟩ := trodAll_cons r0
  obtain ⟨rfl, rfl, rfl⟩ := trodAll_nil r1
  obtain rfl : args = #[v0, v1] := by cases args; simp_all
  obtain ⟨rfl, rfl⟩ := trodVars_none hV
  obtain ⟨a0, len0, cap0, rfl⟩ := okWide_slice Try.underlying23 (hval 0 23 v0 rfl rfl)
  obtain ⟨a1, len1, cap1, rfl⟩ := okWide_slice Try.underlying24 (hval 1 24 v1 rfl rfl)
  have lt0 : ∀ x ∈ p0, x.block < W.heap.size := by obtain ⟨m, hm⟩ := h0; exact DataW.trod_lt m _ _ _ hm
  have lt1 : ∀ x ∈ p1, x.block < W.heap.size := by obtain ⟨m, hm⟩ := h1; exact DataW.trod_lt m _ _ _ hm
  obtain ⟨l0, l1⟩ := lite2 (gt := Rows.pastOrdersSpec.plain.varTypes Try.prog) (gs := []) hsz'
  obtain ⟨e0, he0⟩ := ents_of h0 l0 rfl
  obtain ⟨e1, he1⟩ := ints_of h1 l1 rfl
  clear hA0 hval0
  refine (lift_calls (law11_PastOrders (full W) _ _ e0 e1 he0 he1)).mono fun e W' ⟨he, bel⟩ => ?_
  subst he
  exact ⟨_, rfl, _, _, _, [], _, [], hW', trodAll_mk1 (shut_bool Try.underlying4 _), (trodAll_cons_mk (Below.trod laidOut (by kernel_rfl) (of_decide_eq_true (by kernel_rfl)) h0 bel lt0) (trodAll_cons_mk (Below.trod laidOut (by kernel_rfl) (of_decide_eq_true (by kernel_rfl)) h1 bel lt1) trodAll_mk0)), rfl, bel.frame _, fun h => by cases h⟩

theorem po0 : (Rows.pastOrdersRow.wf (OpenSpec.ofChange Rows.pastOrdersSpec)) = true := by kernel_rfl
theorem po1 : (laidOutB Try.prog) = true := rc1
theorem po2 : (mapsRowed Try.prog) = true := rc2
theorem po3 : (Try.f4.params.all (Try.prog.readableRec ·)) = true := by kernel_rfl
theorem po4 : (namedTie Try.prog Rows.pastOrdersRow.named Rows.pastOrdersSpec.vars) = true := by kernel_rfl
theorem po5 : ((Rows.pastOrdersRow.stops == [])) = true := by kernel_rfl
theorem po6 : ((Try.prog.stops == [])) = true := rc6
theorem po7 : ((Rows.pastOrdersRow.knobs == [])) = true := by kernel_rfl
theorem po8 : ((Try.prog.stopKnobs == [])) = true := rc8
theorem po9 : ((Rows.pastOrdersRow.inPlace == Try.prog.inPlace 4)) = true := by kernel_rfl
theorem po10 : ((Rows.pastOrdersRow.unfollowed == Try.prog.unfollowed 4)) = true := by kernel_rfl
theorem po11 : ((Rows.pastOrdersRow.recurses == Try.prog.recurses 4)) = true := by kernel_rfl
theorem po12 : ((Rows.pastOrdersRow.named == Try.prog.varsNamed 4)) = true := by kernel_rfl
theorem po13 : ((Rows.pastOrdersRow.maps == (Try.f4.params.toList ++ Rows.pastOrdersSpec.plain.varTypes Try.prog).any (Try.prog.mapsRec ·))) = true := by kernel_rfl
theorem po14 : ((Rows.pastOrdersRow.ifaces == (Try.f4.params.toList ++ Rows.pastOrdersSpec.plain.varTypes Try.prog).any (Try.prog.ifacesRec ·))) = true := by kernel_rfl
theorem po15 : ((Rows.pastOrdersRow.mapsOut == Try.prog.mapsAmong Try.f4.resultTypes.toList)) = true := by kernel_rfl
theorem po16 : ((Rows.pastOrdersRow.loops == (Try.f4.params.toList ++ Rows.pastOrdersSpec.plain.varTypes Try.prog).any (Try.prog.loopsFrom ·))) = true := by kernel_rfl
theorem po17 : ((Rows.pastOrdersRow.wideKeys == (Try.f4.params.toList ++ Rows.pastOrdersSpec.plain.varTypes Try.prog ++ Try.f4.resultTypes.toList).any (Try.prog.wideKeysFrom ·))) = true := by kernel_rfl
theorem po18 : (Rows.pastOrdersSpec.vars.all (Try.prog.varReadable ·)) = true := by kernel_rfl
theorem po19 : (Try.f4.resultTypes.all (fun t => Try.prog.readableRec t && decide (t < Try.prog.types.size))) = true := by kernel_rfl
theorem po20 : ((Rows.pastOrdersRow.ifacesOut == Try.f4.resultTypes.toList.any (Try.prog.ifacesRec ·))) = true := by kernel_rfl
theorem po21 : ((Rows.pastOrdersRow.loopsOut == Try.f4.resultTypes.toList.any (Try.prog.loopsFrom ·))) = true := by kernel_rfl
theorem po22 : ((Rows.pastOrdersRow.plainKeys == Try.prog.plainKeys)) = true := rc22
theorem po23 : (Rows.pastOrdersRow.shortTexts.isNone) = true := by kernel_rfl
theorem po24 : (Try.prog.stopsHeard) = true := rc24
theorem po25 : (Try.prog.mayEnter) = true := rc25
theorem po26 : ((Rows.pastOrdersRow.lifted == Try.prog.liftsFinal)) = true := rc26
theorem po27 : ((Try.prog.make == some Rows.pastOrdersRow.make)) = true := rc27
theorem po28 : ((Rows.pastOrdersRow.kinds == (if Rows.pastOrdersRow.domain.isEmpty then [] else Try.f4.params.toList.map fun t => match Try.prog.underlying t with | some (.int k) => some k | _ => none))) = true := by kernel_rfl
theorem po29 : ((Rows.pastOrdersRow.pinned == Rows.pastOrdersRow.pinnedBy)) = true := by kernel_rfl
theorem po30 : ((Rows.pastOrdersRow.veiled == (Try.f4.params.toList ++ Rows.pastOrdersSpec.plain.varTypes Try.prog ++ Try.f4.resultTypes.toList).any (Try.prog.veiledRec ·))) = true := by kernel_rfl
theorem po31 : (Rows.pastOrdersRow.veiledFits Try.prog Try.f4.params.toList (Try.f4.params.toList ++ Rows.pastOrdersSpec.plain.varTypes Try.prog ++ Try.f4.resultTypes.toList)) = true := by kernel_rfl
theorem poClosed : joinedFacts Try.prog 4 Try.f4 Rows.pastOrdersSpec Rows.pastOrdersRow = true := by
  unfold joinedFacts
  exact (and_t (and_t (and_t (and_t (and_t (and_t (and_t (and_t (and_t (and_t (and_t (and_t (and_t (and_t (and_t (and_t (and_t (and_t (and_t (and_t (and_t (and_t (and_t (and_t (and_t (and_t (and_t (and_t (and_t (and_t (and_t po0 po1) po2) po3) po4) po5) po6) po7) po8) po9) po10) po11) po12) po13) po14) po15) po16) po17) po18) po19) po20) po21) po22) po23) po24) po25) po26) po27) po28) po29) po30) po31)
theorem overPastOrders : Rows.pastOrdersRow.holds Try.pinned (OpenSpec.ofChange Rows.pastOrdersSpec) :=
  OpenClaim.holds_of_wide 4 Try.f4 rfl rfl rfl rfl rfl rfl rfl ⟨rfl, rfl, rfl, rfl, rfl⟩ rfl rfl rfl rfl rfl (by kernel_rfl) Try.func4 poClosed
    (of_decide_eq_true (by kernel_rfl)) (by unfold Func.isWrapper; first | (rw [if_pos (by decide +kernel)]; kernel_rfl) | (rw [if_neg (by decide +kernel)]; exact ⟨rfl, rfl⟩))
    (fun os started H enc _ => liftedPastOrders os started H enc)

theorem pastOrders_holds : Rows.PastOrdersSaid := overPastOrders
#print axioms pastOrders_holds
end Go.Proofs.Ytgoooilgmabkmaa
