/-
  pleachlaw11.PastFollows: for every list of entries and any two numbers the law answers true; what it reads stays as it was.
-/
import Derived.Test.YtgoooilgmabkmaaCe
set_option linter.unusedVariables false
set_option linter.unusedSimpArgs false
set_option linter.unusedSectionVars false
namespace Go.Proofs.Ytgoooilgmabkmaa
open Go Go.Sl
open Go.ChangeShapes Go.WideShapes Go.ChangeAt Go.RowKit
set_option linter.unusedVariables false
set_option maxRecDepth 100000

theorem okWide_arr {P : Program} {w : World} {r : Reach} {base n e : Nat} {t : TypeId} {v : Value} (ht : P.underlying t = some (.array n e)) (h : Value.okWide P w r base t v) : ∃ cs, v = .agg cs ∧ cs.size = P.cellsOf t := by
  simp only [Value.okWide, ht] at h
  obtain ⟨cs, h1, h2, _⟩ := h
  exact ⟨cs, h1, h2⟩
section
variable {H : Type} {enc : TypeId × Value → H} {W : World}
theorem Reads.pairI {P : Program} {t e : TypeId} (hu : P.underlying t = some (.array 2 e)) (he : P.underlying e = some (.int .i64)) (hk : P.cellsOf e = 1) (ht : P.cellsOf t = 2) : Reads enc P W t (fun _ (x : Int × Int) vs => vs = [.int .i64 x.1, .int .i64 x.2]) := by
  intro fuel cs d ps h hl hlen
  cases fuel with
  | zero => simp [DataW.trod] at h
  | succ fuel =>
    unfold DataW.trod at h
    simp only [hu, if_pos hlen] at h
    · obtain ⟨xs, hx, hd⟩ := Option.map_eq_some_iff.1 h
      cases hd
      obtain ⟨h1, h2⟩ := mapM_get hx
      have hb : ∀ v ∈ cs, ∃ n : Int, v = .int .i64 n := by
        intro v hv
        obtain ⟨j, hj⟩ := List.getElem?_of_mem hv
        have hlt := (List.getElem?_eq_some_iff.1 hj).1
        obtain ⟨y, hy, hf⟩ := h2 j j (List.getElem?_range (by omega))
        obtain ⟨d', p'⟩ := y
        have hcut : (cs.drop (j * P.cellsOf e)).take (P.cellsOf e) = [v] := by
          rw [hk, Nat.mul_one]
          rw [List.drop_eq_getElem_cons hlt, List.take_succ_cons, List.take_zero, (List.getElem?_eq_some_iff.1 hj).2]
        rw [hcut] at hf
        obtain ⟨n, _, hn, _⟩ := Reads.int (enc := enc) (W := W) he fuel [v] d' p' hf (fun x hx => by
          refine hl x ?_
          simp only [DataW.weights, hu]
          exact weightsAll_mem (List.mem_map.2 ⟨(d', p'), List.mem_of_getElem? hy, rfl⟩) hx) (by simp [hk])
        simp at hn
        exact ⟨n, hn⟩
      rw [ht] at hlen
      match cs, hlen with
      | [v0, v1], _ =>
        obtain ⟨a, rfl⟩ := hb v0 (by simp)
        obtain ⟨b, rfl⟩ := hb v1 (by simp)
        exact ⟨(a, b), rfl, rfl⟩
theorem two_of {cs : Array Value} {d : DataW H} {p : List MemPlace} (h : DataW.Trod enc Try.prog W 0 (fun _ => true) true 64 (.agg cs) d p) (hl : Lite Try.prog 64 d) (hz : cs.size = Try.prog.cellsOf 64) : ∃ x y, cs = #[.int .i64 x, .int .i64 y] := by
  obtain ⟨fuel, hf⟩ := h
  obtain ⟨x, _, h1⟩ := Reads.pairI Try.underlying64 Try.underlying3 (by kernel_rfl) (by kernel_rfl) fuel _ d p hf hl (by rw [← hz]; exact Array.length_toList)
  refine ⟨x.1, x.2, ?_⟩
  have h3 : cs.toList = [.int .i64 x.1, .int .i64 x.2] := h1
  rw [← Array.toList_inj, h3]
end
theorem liftedPastFollows (os : Os) (started : os.Started) (H : Type) (enc : TypeId × Value → H) :
    ReturnsInHanded {} Try.checked os 7 .any (Rows.pastFollowsSpec.pre6 enc Try.prog Try.f7 Rows.pastFollowsRow.domain false) (Rows.pastFollowsSpec.post enc Try.prog Try.f7 false true false false) := by
  refine returnsInHanded_of_change_sized (C := Try.checked) own started (by kernel_rfl) Try.func7
    (ChangeSpec.witness6 (enc := enc) (C := Try.checked) false ⟨#[], #[.slice none 0 0, .agg #[.int .i64 0, .int .i64 0]], []⟩ 8 (by kernel_rfl) (by kernel_rfl) (by kernel_rfl) (by kernel_rfl)) ?_
  intro W base args ds gs before hval0 hW hcnd hsz _
  have hval : ∀ (j : Nat) t v, Try.f7.params[j]? = some t → args[j]? = some v → Value.okWide Try.prog W .any base t v := hval0
  have hW' := hW
  obtain ⟨p, q, hA0, hV, rfl, hfz, hnd⟩ := hW
  have hA : DataW.TrodAll enc Try.prog W 0 (fun _ => true) true Try.f7.params.toList args.toList ds p := hA0
  have hsz' : (DataW.weightsEach Try.prog (Try.f7.params.toList ++ Rows.pastFollowsSpec.plain.varTypes Try.prog) (ds ++ gs)).all (· ≤ reachBytes) = true := hsz
  rw [Try.params7] at hA hval hsz'
  obtain ⟨v0, vs0, d0, ds0, p0, q0, hargs, rfl, rfl, h0, r0⟩ := trodAll_cons hA
  obtain ⟨v1, vs1, d1, ds1, p1, q1, rfl, rfl, rfl, h1, r1⟩ := trodAll_cons r0
  obtain ⟨rfl, rfl, rfl⟩ := trodAll_nil r1
  obtain rfl : args = #[v0, v1] := by cases args; simp_all
  obtain ⟨rfl, rfl⟩ := trodVars_none hV
  obtain ⟨a0, len0, cap0, rfl⟩ := okWide_slice Try.underlying23 (hval 0 23 v0 rfl rfl)
  obtain ⟨cs1, rfl, hz1⟩ := okWide_arr Try.underlying64 (hval 1 64 v1 rfl rfl)
  have lt0 : ∀ x ∈ p0, x.block < W.heap.size := by obtain ⟨m, hm⟩ := h0; exact DataW.trod_lt m _ _ _ hm
  have lt1 : ∀ x ∈ p1, x.block < W.heap.size := by obtain ⟨m, hm⟩ := h1; exact DataW.trod_lt m _ _ _ hm
  obtain ⟨l0, l1⟩ := lite2 (gt := Rows.pastFollowsSpec.plain.varTypes Try.prog) (gs := []) hsz'
  obtain ⟨e0, he0⟩ := ents_of h0 l0 rfl
  obtain ⟨e1, k1, rfl⟩ := two_of h1 l1 hz1
  clear hA0 hval0
  refine (lift_calls (law11_PastFollows (full W) _ e0 e1 k1 he0)).mono fun e W' ⟨he, bel⟩ => ?_
  subst he
  exact ⟨_, rfl, _, _, _, [], _, [], hW', trodAll_mk1 (shut_bool Try.underlying4 _), (trodAll_cons_mk (Below.trod laidOut (by kernel_rfl) (of_decide_eq_true (by kernel_rfl)) h0 bel lt0) (trodAll_cons_mk (Below.trod laidOut (by kernel_rfl) (of_decide_eq_true (by kernel_rfl)) h1 bel lt1) trodAll_mk0)), rfl, bel.frame _, fun h => by cases h⟩

theorem pf0 : (Rows.pastFollowsRow.wf (OpenSpec.ofChange Rows.pastFollowsSpec)) = true := by kernel_rfl
theorem pf1 : (laidOutB Try.prog) = true := rc1
theorem pf2 : (mapsRowed Try.prog) = true := rc2
theorem pf3 : (Try.f7.params.all (Try.prog.readableRec ·)) = true := by kernel_rfl
theorem pf4 : (namedTie Try.prog Rows.pastFollowsRow.named Rows.pastFollowsSpec.vars) = true := by kernel_rfl
theorem pf5 : ((Rows.pastFollowsRow.stops == [])) = true := by kernel_rfl
theorem pf6 : ((Try.prog.stops == [])) = true := rc6
theorem pf7 : ((Rows.pastFollowsRow.knobs == [])) = true := by kernel_rfl
theorem pf8 : ((Try.prog.stopKnobs == [])) = true := rc8
theorem pf9 : ((Rows.pastFollowsRow.inPlace == Try.prog.inPlace 7)) = true := by kernel_rfl
theorem pf10 : ((Rows.pastFollowsRow.unfollowed == Try.prog.unfollowed 7)) = true := by kernel_rfl
theorem pf11 : ((Rows.pastFollowsRow.recurses == Try.prog.recurses 7)) = true := by kernel_rfl
theorem pf12 : ((Rows.pastFollowsRow.named == Try.prog.varsNamed 7)) = true := by kernel_rfl
theorem pf13 : ((Rows.pastFollowsRow.maps == (Try.f7.params.toList ++ Rows.pastFollowsSpec.plain.varTypes Try.prog).any (Try.prog.mapsRec ·))) = true := by kernel_rfl
theorem pf14 : ((Rows.pastFollowsRow.ifaces == (Try.f7.params.toList ++ Rows.pastFollowsSpec.plain.varTypes Try.prog).any (Try.prog.ifacesRec ·))) = true := by kernel_rfl
theorem pf15 : ((Rows.pastFollowsRow.mapsOut == Try.prog.mapsAmong Try.f7.resultTypes.toList)) = true := by kernel_rfl
theorem pf16 : ((Rows.pastFollowsRow.loops == (Try.f7.params.toList ++ Rows.pastFollowsSpec.plain.varTypes Try.prog).any (Try.prog.loopsFrom ·))) = true := by kernel_rfl
theorem pf17 : ((Rows.pastFollowsRow.wideKeys == (Try.f7.params.toList ++ Rows.pastFollowsSpec.plain.varTypes Try.prog ++ Try.f7.resultTypes.toList).any (Try.prog.wideKeysFrom ·))) = true := by kernel_rfl
theorem pf18 : (Rows.pastFollowsSpec.vars.all (Try.prog.varReadable ·)) = true := by kernel_rfl
theorem pf19 : (Try.f7.resultTypes.all (fun t => Try.prog.readableRec t && decide (t < Try.prog.types.size))) = true := by kernel_rfl
theorem pf20 : ((Rows.pastFollowsRow.ifacesOut == Try.f7.resultTypes.toList.any (Try.prog.ifacesRec ·))) = true := by kernel_rfl
theorem pf21 : ((Rows.pastFollowsRow.loopsOut == Try.f7.resultTypes.toList.any (Try.prog.loopsFrom ·))) = true := by kernel_rfl
theorem pf22 : ((Rows.pastFollowsRow.plainKeys == Try.prog.plainKeys)) = true := rc22
theorem pf23 : (Rows.pastFollowsRow.shortTexts.isNone) = true := by kernel_rfl
theorem pf24 : (Try.prog.stopsHeard) = true := rc24
theorem pf25 : (Try.prog.mayEnter) = true := rc25
theorem pf26 : ((Rows.pastFollowsRow.lifted == Try.prog.liftsFinal)) = true := rc26
theorem pf27 : ((Try.prog.make == some Rows.pastFollowsRow.make)) = true := rc27
theorem pf28 : ((Rows.pastFollowsRow.kinds == (if Rows.pastFollowsRow.domain.isEmpty then [] else Try.f7.params.toList.map fun t => match Try.prog.underlying t with | some (.int k) => some k | _ => none))) = true := by kernel_rfl
theorem pf29 : ((Rows.pastFollowsRow.pinned == Rows.pastFollowsRow.pinnedBy)) = true := by kernel_rfl
theorem pf30 : ((Rows.pastFollowsRow.veiled == (Try.f7.params.toList ++ Rows.pastFollowsSpec.plain.varTypes Try.prog ++ Try.f7.resultTypes.toList).any (Try.prog.veiledRec ·))) = true := by kernel_rfl
theorem pf31 : (Rows.pastFollowsRow.veiledFits Try.prog Try.f7.params.toList (Try.f7.params.toList ++ Rows.pastFollowsSpec.plain.varTypes Try.prog ++ Try.f7.resultTypes.toList)) = true := by kernel_rfl
theorem pfClosed : joinedFacts Try.prog 7 Try.f7 Rows.pastFollowsSpec Rows.pastFollowsRow = true := by
  unfold joinedFacts
  exact (and_t (and_t (and_t (and_t (and_t (and_t (and_t (and_t (and_t (and_t (and_t (and_t (and_t (and_t (and_t (and_t (and_t (and_t (and_t (and_t (and_t (and_t (and_t (and_t (and_t (and_t (and_t (and_t (and_t (and_t (and_t pf0 pf1) pf2) pf3) pf4) pf5) pf6) pf7) pf8) pf9) pf10) pf11) pf12) pf13) pf14) pf15) pf16) pf17) pf18) pf19) pf20) pf21) pf22) pf23) pf24) pf25) pf26) pf27) pf28) pf29) pf30) pf31)
theorem overPastFollows : Rows.pastFollowsRow.holds Try.pinned (OpenSpec.ofChange Rows.pastFollowsSpec) :=
  OpenClaim.holds_of_wide 7 Try.f7 rfl rfl rfl rfl rfl rfl rfl ⟨rfl, rfl, rfl, rfl, rfl⟩ rfl rfl rfl rfl rfl (by kernel_rfl) Try.func7 pfClosed
    (of_decide_eq_true (by kernel_rfl)) (by unfold Func.isWrapper; first | (rw [if_pos (by decide +kernel)]; kernel_rfl) | (rw [if_neg (by decide +kernel)]; exact ⟨rfl, rfl⟩))
    (fun os started H enc _ => liftedPastFollows os started H enc)

theorem pastFollows_holds : Rows.PastFollowsSaid := overPastFollows
#print axioms pastFollows_holds
end Go.Proofs.Ytgoooilgmabkmaa
