/-
  pleachlaw14.RegParts: for every list of entries, all heads and every key, the law answers true; what it reads stays as it was.
-/
import Derived.Test.YtgoooilgmabkmaaCd
set_option linter.unusedVariables false
set_option linter.unusedSimpArgs false
set_option linter.unusedSectionVars false
namespace Go.Proofs.Ytgoooilgmabkmaa
open Go Go.Sl
open Go.ChangeShapes Go.WideShapes Go.ChangeAt Go.RowKit
set_option linter.unusedVariables false
set_option maxRecDepth 100000

section
variable {H : Type} {enc : TypeId × Value → H} {W : World}
theorem hashes_of {v : Value} {d : DataW H} {p : List MemPlace} (h : DataW.Trod enc Try.prog W 0 (fun _ => true) true 32 v d p) (hl : Lite Try.prog 32 d) (hv : v.cells = #[v]) : ∃ l, Hashes (full W) v l := by
  obtain ⟨fuel, hf⟩ := h
  obtain ⟨l, _, sv, h1, h2⟩ := rd_hashes fuel _ d p hf hl (by rw [hv]; kernel_rfl)
  rw [hv] at h1
  cases h1
  exact ⟨l, h2⟩
theorem lite3 {t0 t1 t2 : TypeId} {d0 d1 d2 : DataW H} {gt : List TypeId} {gs : List (DataW H)} (h : (DataW.weightsEach Try.prog (t0 :: t1 :: t2 :: gt) (d0 :: d1 :: d2 :: gs)).all (· ≤ reachBytes) = true) : Lite Try.prog t0 d0 ∧ Lite Try.prog t1 d1 ∧ Lite Try.prog t2 d2 := by
  rw [List.all_eq_true] at h
  simp only [DataW.weightsEach, List.mem_append] at h
  exact ⟨fun x hx => by simpa using h x (.inl hx), fun x hx => by simpa using h x (.inr (.inl hx)), fun x hx => by simpa using h x (.inr (.inr (.inl hx)))⟩
end
theorem liftedRegParts (os : Os) (started : os.Started) (H : Type) (enc : TypeId × Value → H) :
    ReturnsInHanded {} Try.checked os 5 .any (Rows.regPartsSpec.pre6 enc Try.prog Try.f5 Rows.regPartsRow.domain false) (Rows.regPartsSpec.post enc Try.prog Try.f5 false true false false) := by
  refine returnsInHanded_of_change_sized (C := Try.checked) own started (by kernel_rfl) Try.func5
    (ChangeSpec.witness6 (enc := enc) (C := Try.checked) false ⟨#[], #[.slice none 0 0, .slice none 0 0, .string ⟨#[]⟩], []⟩ 8 (by kernel_rfl) (by kernel_rfl) (by kernel_rfl) (by kernel_rfl)) ?_
  intro W base args ds gs before hval0 hW hcnd hsz _
  have hval : ∀ (j : Nat) t v, Try.f5.params[j]? = some t → args[j]? = some v → Value.okWide Try.prog W .any base t v := hval0
  have hW' := hW
  obtain ⟨p, q, hA0, hV, rfl, hfz, hnd⟩ := hW
  have hA : DataW.TrodAll enc Try.prog W 0 (fun _ => true) true Try.f5.params.toList args.toList ds p := hA0
  have hsz' : (DataW.weightsEach Try.prog (Try.f5.params.toList ++ Rows.regPartsSpec.plain.varTypes Try.prog) (ds ++ gs)).all (· ≤ reachBytes) = true := hsz
  rw [Try.params5] at hA hval hsz'
  obtain ⟨v0, vs0, d0, ds0, p0, q0, hargs, rfl, rfl, h0, r0⟩ := trodAll_cons hA
  obtain ⟨v1, vs1, d1, ds1, p1, q1, rfl, rfl, rfl, h1, r1⟩ := trodAll_cons r0
  obtain ⟨v2, vs2, d2, ds2, p2, q2, rfl, rfl, rfl, h2, r2⟩ := trodAll_cons r1
  obtain ⟨rfl, rfl, rfl⟩ := trodAll_nil r2
  obtain rfl : args = #[v0, v1, v2] := by cases args; simp_all
  obtain ⟨rfl, rfl⟩ := trodVars_none hV
  obtain ⟨a0, len0, cap0, rfl⟩ := okWide_slice Try.underlying23 (hval 0 23 v0 rfl rfl)
  obtain ⟨a1, len1, cap1, rfl⟩ := okWide_slice Try.underlying32 (hval 1 32 v1 rfl rfl)
  obtain ⟨s2, rfl⟩ := okWide_string Try.underlying9 (hval 2 9 v2 rfl rfl)
  have lt0 : ∀ x ∈ p0, x.block < W.heap.size := by obtain ⟨m, hm⟩ := h0; exact DataW.trod_lt m _ _ _ hm
  have lt1 : ∀ x ∈ p1, x.block < W.heap.size := by obtain ⟨m, hm⟩ := h1; exact DataW.trod_lt m _ _ _ hm
  have lt2 : ∀ x ∈ p2, x.block < W.heap.size := by obtain ⟨m, hm⟩ := h2; exact DataW.trod_lt m _ _ _ hm
  obtain ⟨l0, l1, l2⟩ := lite3 (gt := Rows.regPartsSpec.plain.varTypes Try.prog) (gs := []) hsz'
  obtain ⟨e0, he0⟩ := ents_of h0 l0 rfl
  obtain ⟨e1, he1⟩ := hashes_of h1 l1 rfl
  clear hA0 hval0
  refine (lift_calls (law14_RegParts (full W) _ _ s2 e0 e1 he0 he1)).mono fun e W' ⟨he, bel⟩ => ?_
  subst he
  exact ⟨_, rfl, _, _, _, [], _, [], hW', trodAll_mk1 (shut_bool Try.underlying4 _), (trodAll_cons_mk (Below.trod laidOut (by kernel_rfl) (of_decide_eq_true (by kernel_rfl)) h0 bel lt0) (trodAll_cons_mk (Below.trod laidOut (by kernel_rfl) (of_decide_eq_true (by kernel_rfl)) h1 bel lt1) (trodAll_cons_mk (Below.trod laidOut (by kernel_rfl) (of_decide_eq_true (by kernel_rfl)) h2 bel lt2) trodAll_mk0))), rfl, bel.frame _, fun h => by cases h⟩

theorem rp0 : (Rows.regPartsRow.wf (OpenSpec.ofChange Rows.regPartsSpec)) = true := by kernel_rfl
theorem rp1 : (laidOutB Try.prog) = true := rc1
theorem rp2 : (mapsRowed Try.prog) = true := rc2
theorem rp3 : (Try.f5.params.all (Try.prog.readableRec ·)) = true := by kernel_rfl
theorem rp4 : (namedTie Try.prog Rows.regPartsRow.named Rows.regPartsSpec.vars) = true := by kernel_rfl
theorem rp5 : ((Rows.regPartsRow.stops == [])) = true := by kernel_rfl
theorem rp6 : ((Try.prog.stops == [])) = true := rc6
theorem rp7 : ((Rows.regPartsRow.knobs == [])) = true := by kernel_rfl
theorem rp8 : ((Try.prog.stopKnobs == [])) = true := rc8
theorem rp9 : ((Rows.regPartsRow.inPlace == Try.prog.inPlace 5)) = true := by kernel_rfl
theorem rp10 : ((Rows.regPartsRow.unfollowed == Try.prog.unfollowed 5)) = true := by kernel_rfl
theorem rp11 : ((Rows.regPartsRow.recurses == Try.prog.recurses 5)) = true := by kernel_rfl
theorem rp12 : ((Rows.regPartsRow.named == Try.prog.varsNamed 5)) = true := by kernel_rfl
theorem rp13 : ((Rows.regPartsRow.maps == (Try.f5.params.toList ++ Rows.regPartsSpec.plain.varTypes Try.prog).any (Try.prog.mapsRec ·))) = true := by kernel_rfl
theorem rp14 : ((Rows.regPartsRow.ifaces == (Try.f5.params.toList ++ Rows.regPartsSpec.plain.varTypes Try.prog).any (Try.prog.ifacesRec ·))) = true := by kernel_rfl
theorem rp15 : ((Rows.regPartsRow.mapsOut == Try.prog.mapsAmong Try.f5.resultTypes.toList)) = true := by kernel_rfl
theorem rp16 : ((Rows.regPartsRow.loops == (Try.f5.params.toList ++ Rows.regPartsSpec.plain.varTypes Try.prog).any (Try.prog.loopsFrom ·))) = true := by kernel_rfl
theorem rp17 : ((Rows.regPartsRow.wideKeys == (Try.f5.params.toList ++ Rows.regPartsSpec.plain.varTypes Try.prog ++ Try.f5.resultTypes.toList).any (Try.prog.wideKeysFrom ·))) = true := by kernel_rfl
theorem rp18 : (Rows.regPartsSpec.vars.all (Try.prog.varReadable ·)) = true := by kernel_rfl
theorem rp19 : (Try.f5.resultTypes.all (fun t => Try.prog.readableRec t && decide (t < Try.prog.types.size))) = true := by kernel_rfl
theorem rp20 : ((Rows.regPartsRow.ifacesOut == Try.f5.resultTypes.toList.any (Try.prog.ifacesRec ·))) = true := by kernel_rfl
theorem rp21 : ((Rows.regPartsRow.loopsOut == Try.f5.resultTypes.toList.any (Try.prog.loopsFrom ·))) = true := by kernel_rfl
theorem rp22 : ((Rows.regPartsRow.plainKeys == Try.prog.plainKeys)) = true := rc22
theorem rp23 : (Rows.regPartsRow.shortTexts.isNone) = true := by kernel_rfl
theorem rp24 : (Try.prog.stopsHeard) = true := rc24
theorem rp25 : (Try.prog.mayEnter) = true := rc25
theorem rp26 : ((Rows.regPartsRow.lifted == Try.prog.liftsFinal)) = true := rc26
theorem rp27 : ((Try.prog.make == some Rows.regPartsRow.make)) = true := rc27
theorem rp28 : ((Rows.regPartsRow.kinds == (if Rows.regPartsRow.domain.isEmpty then [] else Try.f5.params.toList.map fun t => match Try.prog.underlying t with | some (.int k) => some k | _ => none))) = true := by kernel_rfl
theorem rp29 : ((Rows.regPartsRow.pinned == Rows.regPartsRow.pinnedBy)) = true := by kernel_rfl
theorem rp30 : ((Rows.regPartsRow.veiled == (Try.f5.params.toList ++ Rows.regPartsSpec.plain.varTypes Try.prog ++ Try.f5.resultTypes.toList).any (Try.prog.veiledRec ·))) = true := by kernel_rfl
theorem rp31 : (Rows.regPartsRow.veiledFits Try.prog Try.f5.params.toList (Try.f5.params.toList ++ Rows.regPartsSpec.plain.varTypes Try.prog ++ Try.f5.resultTypes.toList)) = true := by kernel_rfl
theorem rpClosed : joinedFacts Try.prog 5 Try.f5 Rows.regPartsSpec Rows.regPartsRow = true := by
  unfold joinedFacts
  exact (and_t (and_t (and_t (and_t (and_t (and_t (and_t (and_t (and_t (and_t (and_t (and_t (and_t (and_t (and_t (and_t (and_t (and_t (and_t (and_t (and_t (and_t (and_t (and_t (and_t (and_t (and_t (and_t (and_t (and_t (and_t rp0 rp1) rp2) rp3) rp4) rp5) rp6) rp7) rp8) rp9) rp10) rp11) rp12) rp13) rp14) rp15) rp16) rp17) rp18) rp19) rp20) rp21) rp22) rp23) rp24) rp25) rp26) rp27) rp28) rp29) rp30) rp31)
theorem overRegParts : Rows.regPartsRow.holds Try.pinned (OpenSpec.ofChange Rows.regPartsSpec) :=
  OpenClaim.holds_of_wide 5 Try.f5 rfl rfl rfl rfl rfl rfl rfl ⟨rfl, rfl, rfl, rfl, rfl⟩ rfl rfl rfl rfl rfl (by kernel_rfl) Try.func5 rpClosed
    (of_decide_eq_true (by kernel_rfl)) (by unfold Func.isWrapper; first | (rw [if_pos (by decide +kernel)]; kernel_rfl) | (rw [if_neg (by decide +kernel)]; exact ⟨rfl, rfl⟩))
    (fun os started H enc _ => liftedRegParts os started H enc)

theorem regParts_holds : Rows.RegPartsSaid := overRegParts
#print axioms regParts_holds
end Go.Proofs.Ytgoooilgmabkmaa
