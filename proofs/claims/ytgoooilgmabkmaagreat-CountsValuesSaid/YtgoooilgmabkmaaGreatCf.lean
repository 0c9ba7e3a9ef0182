/-
  Contracts of the functions of the program and of its references: what each call hands back, from what is known and owned.
-/
import Derived.Test.YtgoooilgmabkmaaGreatCe
import Derived.Shelf.SortM.Plain
import Derived.Shelf.SortM.SortNone
set_option linter.unusedVariables false
set_option linter.unusedSimpArgs false
set_option linter.unusedSectionVars false
namespace Go.Proofs.YtgoooilgmabkmaaGreat
open Go Go.Sl
set_option linter.unusedVariables false
set_option linter.unusedSimpArgs false
set_option maxRecDepth 100000

def TryzSort_ren : Go.Shelf.Ren := ⟨fun | 6 => 102 | 8 => 156 | 9 => 155 | 19 => 192 | 20 => 193 | 21 => 183 | 22 => 184 | 23 => 185 | 24 => 186 | 25 => 187 | 26 => 188 | 27 => 189 | 28 => 190 | 29 => 191 | 36 => 220 | 31 => 221 | 32 => 222 | 37 => 223 | 38 => 224 | 39 => 225 | 41 => 239 | n => n, fun | 27 => 23 | 29 => 9 | 3 => 3 | 32 => 238 | 26 => 23 | 0 => 0 | 44 => 282 | 46 => 60 | 4 => 4 | 36 => 275 | 35 => 274 | 41 => 176 | 5 => 5 | 9 => 9 | 53 => 300 | 57 => 304 | 63 => 322 | 64 => 323 | n => n, fun | n => n⟩
theorem TryzSort : Go.Proofs.SlLaysM.n6 Tryz.prog TryzSort_ren :=
  { mixed := by kernel_rfl,
    f6 := ⟨Tryz.f102.name, by decide, Tryz.func102.trans (congrArg some (by kernel_rfl))⟩,
    f8 := Tryz.func156.trans (congrArg some (by kernel_rfl)),
    f9 := ⟨Tryz.f155.name, by decide, Tryz.func155.trans (congrArg some (by kernel_rfl))⟩,
    f19 := Tryz.func192.trans (congrArg some (by kernel_rfl)),
    f20 := Tryz.func193.trans (congrArg some (by kernel_rfl)),
    f21 := ⟨Tryz.f183.name, by decide, Tryz.func183.trans (congrArg some (by kernel_rfl))⟩,
    f22 := ⟨Tryz.f184.name, by decide, Tryz.func184.trans (congrArg some (by kernel_rfl))⟩,
    f23 := ⟨Tryz.f185.name, by decide, Tryz.func185.trans (congrArg some (by kernel_rfl))⟩,
    f24 := ⟨Tryz.f186.name, by decide, Tryz.func186.trans (congrArg some (by kernel_rfl))⟩,
    f25 := ⟨Tryz.f187.name, by decide, Tryz.func187.trans (congrArg some (by kernel_rfl))⟩,
    f26 := ⟨Tryz.f188.name, by decide, Tryz.func188.trans (congrArg some (by kernel_rfl))⟩,
    f27 := ⟨Tryz.f189.name, by decide, Tryz.func189.trans (congrArg some (by kernel_rfl))⟩,
    f28 := ⟨Tryz.f190.name, by decide, Tryz.func190.trans (congrArg some (by kernel_rfl))⟩,
    f29 := ⟨Tryz.f191.name, by decide, Tryz.func191.trans (congrArg some (by kernel_rfl))⟩,
    f31 := Tryz.func221.trans (congrArg some (by kernel_rfl)),
    f32 := Tryz.func222.trans (congrArg some (by kernel_rfl)),
    f36 := ⟨Tryz.f220.name, by decide, Tryz.func220.trans (congrArg some (by kernel_rfl))⟩,
    f37 := ⟨Tryz.f223.name, by decide, Tryz.func223.trans (congrArg some (by kernel_rfl))⟩,
    f38 := ⟨Tryz.f224.name, by decide, Tryz.func224.trans (congrArg some (by kernel_rfl))⟩,
    f39 := ⟨Tryz.f225.name, by decide, Tryz.func225.trans (congrArg some (by kernel_rfl))⟩,
    f41 := ⟨Tryz.f239.name, by decide, Tryz.func239.trans (congrArg some (by kernel_rfl))⟩,
    t0 := Tryz.underlying0,
    a0 := Tryz.isAgg0,
    z0 := Tryz.sizeOf0,
    v0 := Tryz.zeroValue0,
    t3 := Tryz.underlying3,
    a3 := Tryz.isAgg3,
    z3 := Tryz.sizeOf3,
    v3 := Tryz.zeroValue3,
    t4 := Tryz.underlying4,
    a4 := Tryz.isAgg4,
    z4 := Tryz.sizeOf4,
    v4 := Tryz.zeroValue4,
    t5 := Tryz.underlying5,
    a5 := Tryz.isAgg5,
    z5 := Tryz.sizeOf5,
    v5 := Tryz.zeroValue5,
    t9 := Tryz.underlying9,
    a9 := Tryz.isAgg9,
    z9 := Tryz.sizeOf9,
    v9 := Tryz.zeroValue9,
    t26 := Tryz.underlying23,
    a26 := Tryz.isAgg23,
    z26 := Tryz.sizeOf23,
    v26 := Tryz.zeroValue23,
    t27 := Tryz.underlying23,
    a27 := Tryz.isAgg23,
    z27 := Tryz.sizeOf23,
    v27 := Tryz.zeroValue23,
    t29 := Tryz.underlying9,
    a29 := Tryz.isAgg9,
    z29 := Tryz.sizeOf9,
    v29 := Tryz.zeroValue9,
    t32 := Tryz.underlying238,
    a32 := Tryz.isAgg238,
    z32 := Tryz.sizeOf238,
    v32 := Tryz.zeroValue238,
    t35 := Tryz.underlying274,
    a35 := Tryz.isAgg274,
    z35 := Tryz.sizeOf274,
    v35 := Tryz.zeroValue274,
    t36 := Tryz.underlying275,
    a36 := Tryz.isAgg275,
    z36 := Tryz.sizeOf275,
    v36 := Tryz.zeroValue275,
    t41 := Tryz.underlying176,
    a41 := Tryz.isAgg176,
    z41 := Tryz.sizeOf176,
    v41 := Tryz.zeroValue176,
    t44 := Tryz.underlying282,
    a44 := Tryz.isAgg282,
    z44 := Tryz.sizeOf282,
    v44 := Tryz.zeroValue282,
    t46 := Tryz.underlying60,
    a46 := Tryz.isAgg60,
    z46 := Tryz.sizeOf60,
    v46 := Tryz.zeroValue60,
    t53 := Tryz.underlying300,
    a53 := Tryz.isAgg300,
    z53 := Tryz.sizeOf300,
    v53 := Tryz.zeroValue300,
    t57 := Tryz.underlying304,
    a57 := Tryz.isAgg304,
    z57 := Tryz.sizeOf304,
    v57 := Tryz.zeroValue304,
    t63 := Tryz.underlying322,
    a63 := Tryz.isAgg322,
    z63 := Tryz.sizeOf322,
    v63 := Tryz.zeroValue322,
    t64 := Tryz.underlying323,
    a64 := Tryz.isAgg323,
    z64 := Tryz.sizeOf323,
    v64 := Tryz.zeroValue323 }
/-- texts in order -/
def sortB (l : List ByteArray) : List ByteArray := ((l.map fun s => s.data.toList).mergeSort fun x y => decide (x ≤ y)).map fun x => ⟨x.toArray⟩
theorem ba_back (s : ByteArray) : (⟨s.data.toList.toArray⟩ : ByteArray) = s := by cases s; simp
theorem sortB_perm (l : List ByteArray) : (sortB l).Perm l := by
  unfold sortB
  have h1 := (List.mergeSort_perm (l.map fun s => s.data.toList) (fun x y => decide (x ≤ y))).map fun x : List UInt8 => (⟨x.toArray⟩ : ByteArray)
  refine h1.trans ?_
  rw [List.map_map]
  have : (l.map ((fun x : List UInt8 => (⟨x.toArray⟩ : ByteArray)) ∘ fun s : ByteArray => s.data.toList)) = l := by
    conv => rhs; rw [← List.map_id l]
    exact List.map_congr_left fun s _ => ba_back s
  rw [this]
theorem sortB_len (l : List ByteArray) : (sortB l).length = l.length := (sortB_perm l).length_eq
theorem lt_bl : ∀ (x y : List UInt8), (x < y) ↔ Op.bytesLess x y = true
  | [], [] => by simp [Op.bytesLess]
  | _ :: _, [] => by simp [Op.bytesLess]
  | [], _ :: _ => by simp [Op.bytesLess]
  | a :: x, b :: y => by
    rw [List.cons_lt_cons_iff, lt_bl x y]
    simp [Op.bytesLess]
theorem le_bl {x y : List UInt8} : (x ≤ y) ↔ (Op.bytesLess x y = true ∨ x = y) := by
  have h : (x ≤ y) ↔ ¬ (y < x) := Iff.rfl
  rw [h, lt_bl]
  constructor
  · intro hn
    rcases bl_total x y with h1 | h1 | h1
    · exact .inl h1
    · exact .inr h1
    · exact absurd h1 hn
  · rintro (h1 | rfl) h2
    · have := bl_trans _ _ _ h1 h2
      rw [bl_irrefl] at this; cases this
    · rw [bl_irrefl] at h2; cases h2
theorem ba_le {x y : List UInt8} (h : x ≤ y) : leB ⟨x.toArray⟩ ⟨y.toArray⟩ = true := by
  unfold leB
  rw [decide_eq_true_eq]
  rcases le_bl.1 h with h | rfl
  · refine .inl ?_
    unfold ltB
    rw [bytes_toList, bytes_toList]
    exact h
  · exact .inr rfl
theorem sortB_sorted (l : List ByteArray) : (sortB l).Pairwise (fun a b => leB a b = true) := by
  unfold sortB
  rw [List.pairwise_map]
  refine List.Pairwise.imp (fun h => ba_le (of_decide_eq_true h)) (List.pairwise_mergeSort (le := fun x y : List UInt8 => decide (x ≤ y)) ?_ ?_ _)
  · intro a b c h1 h2
    have h1 := le_bl.1 (of_decide_eq_true h1)
    have h2 := le_bl.1 (of_decide_eq_true h2)
    refine decide_eq_true (le_bl.2 ?_)
    rcases h1 with h1 | rfl
    · rcases h2 with h2 | rfl
      · exact .inl (bl_trans _ _ _ h1 h2)
      · exact .inl h1
    · exact h2
  · intro a b
    rw [Bool.or_eq_true]
    rcases bl_total a b with h | h | h
    · exact .inl (decide_eq_true (le_bl.2 (.inl h)))
    · exact .inl (decide_eq_true (le_bl.2 (.inr h)))
    · exact .inr (decide_eq_true (le_bl.2 (.inl h)))
theorem nodup_sorted : ∀ {l : List ByteArray}, l.Nodup → l.Pairwise (fun a b => leB a b = true) → SortedB l
  | [], _, _ => List.Pairwise.nil
  | a :: l, hn, h => by
    rw [List.nodup_cons] at hn
    rw [List.pairwise_cons] at h
    refine List.pairwise_cons.2 ⟨fun b hb => ?_, nodup_sorted hn.2 h.2⟩
    have := h.1 b hb
    unfold leB at this
    rw [decide_eq_true_eq] at this
    rcases this with h1 | rfl
    · exact h1
    · exact absurd hb hn.1
theorem St.growH {σ : View} {H : HList} {w w' : World} {os : Array Obj} (h : St σ H w) (hw : w'.heap = w.heap ++ os) (he : Env w w') : St σ H w' := by
  have key : ∀ b o, w.heap[b]? = some o → w'.heap[b]? = some o := fun b o hb => by
    rw [hw, Array.getElem?_append_left (Array.getElem?_eq_some_iff.1 hb).1]; exact hb
  exact ⟨h.envOf he, fun b o ho => key _ _ (h.view b o ho), fun p hp => key _ _ (h.own p hp), h.apart, h.nodup⟩
/-- slices.Sort of texts -/
theorem slices_Sort (σ : View) (sv : Value) (acc : List ByteArray) (hl : HList) (hso : SlO σ eStr 9 1 sv acc hl) (hb : acc.length ≤ 4194304) :
    Tri Tryz.prog 102 #[sv] σ hl (fun v σ' H' => SlO σ eStr 9 1 sv (sortB acc) H' ∧ σ' = σ) := by
  intro Hr w hs
  by_cases h0 : acc.length = 0
  · obtain ⟨p, cap, rfl, _⟩ := hso.shape
    have ha := List.eq_nil_of_length_eq_zero h0
    subst ha
    refine (Go.Proofs.AnyM.slices_Sort_string_none TryzSort p cap w).mono ?_
    rintro e w' ⟨rfl, rfl⟩
    exact ⟨_, σ, hl, rfl, ⟨by rw [show sortB [] = [] from List.eq_nil_of_length_eq_zero (by rw [sortB_len]; rfl)]; exact hso, rfl⟩, View.le_refl _, hs⟩
  · obtain ⟨b, cap, junk, vss, rfl, rfl, hcap, hjl, hel⟩ := hso.at (by omega)
    have hvs : vss.flatten = acc.map Value.string := by
      have : vss = acc.map fun s => [Value.string s] := by
        apply List.ext_getElem?
        intro i
        rw [List.getElem?_map]
        by_cases hi : i < acc.length
        · have hx : acc[i]? = some acc[i] := List.getElem?_eq_getElem hi
          obtain ⟨vs, h1, _, _, rfl, _⟩ := hel.2 i _ hx
          rw [h1, hx]; rfl
        · rw [List.getElem?_eq_none (by rw [hel.1]; omega), List.getElem?_eq_none (by omega)]; rfl
      rw [this, flat_one]
    have hok : ∀ s ∈ acc, StrOk s := fun s hsm => by
      obtain ⟨i, hi⟩ := List.getElem?_of_mem hsm
      obtain ⟨vs, _, _, _, _, h⟩ := hel.2 i s hi
      exact h
    have hown := hs.own (b, rowO 9 (vss.flatten ++ junk)) (by simp)
    have hss : ((acc.map fun s => s.data.toList)).length = acc.length := by simp
    have hH : Go.Sort.Holds Go.Proofs.encStr w b 0 (acc.map fun s => s.data.toList).toArray := by
      intro j hj
      have hj' : j < acc.length := by simpa using hj
      refine ⟨?_, ?_⟩
      · have hx : acc[j]? = some acc[j] := List.getElem?_eq_getElem hj'
        have h1 : w.cell? ⟨b, 0 + j, none⟩ = some (.string acc[j]) := by
          have := (Rd.own1 (σ := σ) (off := 0 + j) (v := .string acc[j]) (T := 9) (l := vss.flatten ++ junk) (H := [(b, rowO 9 (vss.flatten ++ junk))] ++ Hr) (b := b) (by simp) (by rw [Nat.zero_add, List.getElem?_append_left (by rw [hvs, List.length_map]; exact hj'), hvs, List.getElem?_map, hx]; rfl)).cell hs 0 _ rfl
          simpa using this
        rw [h1]
        have h2 : (acc.map fun s => s.data.toList).toArray[j]! = acc[j].data.toList := by
          rw [getElem!_pos _ j hj]; simp
        rw [h2]
      · simp [World.frozen?, hown, rowO]
    have hlt : b < w.heap.size := (Array.getElem?_eq_some_iff.1 hown).1
    have := Go.Proofs.AnyM.slices_Sort_string TryzSort b 0 cap (acc.map fun s => s.data.toList) w hH hlt (by rw [hss]; omega)
    rw [hss] at this
    refine this.mono ?_
    rintro e w' ⟨rfl, n, os, rfl⟩
    obtain ⟨srt, hsrt⟩ : ∃ srt, srt = (acc.map fun s => s.data.toList).mergeSort fun x y => decide (x ≤ y) := ⟨_, rfl⟩
    rw [← hsrt]
    have hsl : srt.length = acc.length := by rw [hsrt, List.length_mergeSort]; simp
    have hsB : sortB acc = srt.map fun x => ⟨x.toArray⟩ := by rw [hsrt]; rfl
    have hnew : SlO σ eStr 9 1 (.slice (some ⟨b, 0, none⟩) acc.length cap) (sortB acc) [(b, rowO 9 ((sortB acc).map Value.string ++ junk))] := by
      refine ⟨(sortB acc).map fun s => [Value.string s], ⟨by rw [flat_one, List.length_map]; omega, .inr ⟨b, cap, junk, by rw [sortB_len], by rw [flat_one], by rw [sortB_len]; exact hjl, by rw [sortB_len]; exact hcap⟩⟩, by simp, fun i x hx => ⟨[.string x], by simp [hx], rfl, rfl, rfl, hok x ((sortB_perm acc).mem_iff.1 (List.mem_of_getElem? hx))⟩⟩
    refine ⟨_, σ, _, rfl, ⟨hnew, rfl⟩, View.le_refl _, ?_⟩
    have h1 : St σ ([(b, rowO 9 ((sortB acc).map Value.string ++ junk))] ++ Hr) (Go.Sort.putRow Go.Proofs.encStr (Go.Sort.ahead w n) b 0 srt.toArray) := by
      have hwo : (Go.Sort.ahead w n).heap = w.heap := rfl
      refine hs.part (b := b) (o := rowO 9 (vss.flatten ++ junk)) (o' := rowO 9 ((sortB acc).map Value.string ++ junk)) Part.one ?_ ?_ ⟨rfl, rfl, rfl, Nat.le_add_right _ _⟩
      · show ((Go.Sort.ahead w n).heap.modify b _)[b]? = _
        rw [hwo, Array.getElem?_modify, if_pos rfl, hown]
        simp only [Option.map_some, rowO, Go.Sort.onCells]
        congr 2
        apply Array.ext'
        simp only [Go.Sort.putCells, Array.toList_mapIdx]
        apply List.ext_getElem?
        intro k
        simp only [List.getElem?_mapIdx, Nat.zero_le, true_and, Nat.zero_add, Nat.sub_zero]
        by_cases hk : k < acc.length
        · have hk2 : k < srt.length := by omega
          rw [List.getElem?_append_left (by rw [hvs, List.length_map]; exact hk), List.getElem?_append_left (by rw [List.length_map, sortB_len]; exact hk), hvs]
          rw [List.getElem?_map, List.getElem?_eq_getElem hk]
          simp only [Option.map_some]
          rw [if_pos (by simpa using hk2)]
          have h2 : srt.toArray[k]! = srt[k] := by rw [getElem!_pos _ k (by simpa using hk2)]; simp
          rw [h2, hsB, List.getElem?_map, List.getElem?_map, List.getElem?_eq_getElem hk2]
          rfl
        · rw [List.getElem?_append_right (by rw [hvs, List.length_map]; omega), List.getElem?_append_right (by rw [List.length_map, sortB_len]; omega), hvs, List.length_map, List.length_map, sortB_len]
          cases junk[k - acc.length]? with
          | none => rfl
          | some y => simp only [Option.map_some]; rw [if_neg (by simp; omega)]
      · intro c hc
        show ((Go.Sort.ahead w n).heap.modify b _)[c]? = _
        rw [hwo, Array.getElem?_modify, if_neg (Ne.symm hc)]
    exact St.growH h1 rfl ⟨rfl, rfl, rfl, Nat.le_refl _⟩
end Go.Proofs.YtgoooilgmabkmaaGreat
namespace Go.Proofs.YtgoooilgmabkmaaGreat
open Go Go.Sl
set_option linter.unusedVariables false
set_option linter.unusedSimpArgs false
set_option maxRecDepth 100000

abbrev cntT (L : List EntD) : List Trip := tripsN L (isKind 6 7) L.length
theorem cntV_none {L : List EntD} {key : ByteArray} (h : key ∉ keysG cntKey (cntT L)) : cntV L key = 0 := by
  have : cntS L key = [] := by rw [← cnt_onKey]; exact filterG_fresh cntKey h
  unfold cntV; rw [this]; rfl
theorem cntV_in {L : List EntD} {key : ByteArray} (h : cntV L key ≠ 0) : key ∈ keysG cntKey (cntT L) := Classical.byContradiction fun hc => h (cntV_none hc)
theorem cntKeys_mem {L : List EntD} {k : ByteArray} : k ∈ cntKeys L ↔ cntV L k ≠ 0 := by
  unfold cntKeys
  rw [List.mem_filter]
  simp only [decide_eq_true_eq]
  refine ⟨fun h => h.2, fun h => ⟨keysR_mem.2 ?_, h⟩⟩
  obtain ⟨t, ht, he⟩ := (keysG_mem cntKey k _).1 (cntV_in h)
  exact ⟨tOp t, by rw [← tripsN_ops]; exact List.mem_map.2 ⟨t, ht, rfl⟩, he⟩
theorem cntKeys_sorted (L : List EntD) : SortedB (cntKeys L) := (keysR_sorted L _).sublist List.filter_sublist
theorem cntKeys_final {L : List EntD} {seen : List Nat} (hn : seen.Nodup) (hall : ∀ i, i < (keysG cntKey (cntT L)).length → i ∈ seen) : sortB ((seenK (keysG cntKey (cntT L)) seen).filter fun k => decide (cntV L k ≠ 0)) = cntKeys L := by
  refine sortedB_ext _ _ (nodup_sorted ((sortB_perm _).nodup_iff.2 ((seenK_nodup (keysG_nodup cntKey _) hn).sublist List.filter_sublist)) (sortB_sorted _)) (cntKeys_sorted L) fun x => ?_
  rw [(sortB_perm _).mem_iff, List.mem_filter, cntKeys_mem]
  simp only [decide_eq_true_eq]
  refine ⟨fun h => h.2, fun h => ⟨?_, h⟩⟩
  obtain ⟨i, hi⟩ := List.getElem?_of_mem (cntV_in h)
  exact seenK_mem.2 ⟨i, hall i (List.getElem?_eq_some_iff.1 hi).1, hi⟩
theorem cnt_told (L : List EntD) (key : ByteArray) : (((cntT L).filter (onG cntKey key)).filter k6).foldl (cntP L (((cntT L).filter (onG cntKey key)).filter k7)) 0 = cntV L key := by
  rw [cnt_onKey]; exact cntP_cntV L key
theorem cntT_lt {L : List EntD} {key : ByteArray} {p : Trip → Bool} : ∀ t ∈ ((cntT L).filter (onG cntKey key)).filter p, t.1 < L.length := fun t ht => (tripsN_mem (List.mem_filter.1 (List.mem_filter.1 ht).1).1).1
theorem cntT_len {L : List EntD} (ho : OrdOk L) (key : ByteArray) : ((cntT L).filter (onG cntKey key)).length * 24 ≤ 140737488355328 := by
  have h1 := tripsN_len ho (isKind 6 7) L.length
  have h2 := ho.most
  have h3 : ((cntT L).filter (onG cntKey key)).length ≤ (tripsN L (isKind 6 7) L.length).length := List.length_filter_le _ _
  omega
theorem cnt_opsOk {σ : View} {pv : Value} {L : List EntD} (h : PastV σ pv L) : ∀ i, ∀ o ∈ opsAt L i, o.ok := by
  intro i o ho
  obtain ⟨b, mb, lv, sv, rfl, hr, hE, hm, hS⟩ := h
  obtain ⟨ea, ec, rfl, _, _⟩ := hE.shape
  obtain ⟨b, off, _, hat⟩ := hE.rds
  unfold opsAt at ho
  split at ho
  · rename_i e he
    obtain ⟨vs, _, _, ⟨qv, ov, rfl, _, hNR⟩, _⟩ := hat i e he
    have hops := hNR.2.1
    obtain ⟨oa, oc, rfl, _, _⟩ := hops.shape
    obtain ⟨b2, off2, _, hat2⟩ := hops.rds
    obtain ⟨j, hj⟩ := List.getElem?_of_mem ho
    obtain ⟨_, _, _, ⟨_, h3⟩, _⟩ := hat2 j o hj
    exact h3
  · simp at ho

theorem counts_Value (σ : View) (pv : Value) (L : List EntD) (key : ByteArray) (h : PastV σ pv L) (ho : OrdOk L) :
    Tri Tryz.prog 32 #[pv, .string key] σ [] (fun v σ' H' => v = .int .i64 (cntV L key) ∧ H' = []) := by
  refine Tri.of_body [(0, pv), (1, .string key)] Tryz.func32 rfl Tryz.ntmps32 (by simp) rfl (fun Hr => ?_)
  rw [List.nil_append]
  refine WC.seq ?_
  refine WC.region ?_
  refine WL.pur (Pur.assign rfl) ?_
  refine WL.nil ?_
  refine WQ.thn ?_
  refine WC.seq ?_
  refine WC.seq ?_
  refine WC.region ?_
  refine WL.pur (Pur.move rfl) ?_
  refine WL.call (H0 := []) (Hr := Hr) rfl Tryz.call109 (List.Perm.refl _) (counts_all _ _ L h ho) ?_
  rintro _ σ1 H1 ⟨bm, rfl, hK⟩ hle1
  obtain ⟨av, ents, hk, rest, hperm, hga, hor, hput⟩ := KC_look hK key
  refine WL.perm (H0 := (bm, mapO Value.string ents) :: (hk ++ (rest ++ Hr))) ?_ (perm_up (l1 := []) hperm)
  refine WL.pur (Pur.move rfl) ?_
  refine WL.pur ((pur_look hga (Pur.lookup (K := Value.string) rfl rfl mt_168 (keyC_string isString_9) zv_167 (Or.inl (by repeat (first | exact List.Mem.head _ | apply List.Mem.tail | apply List.mem_append_right))) (fun _ _ => trivial) trivial))) ?_
  refine WL.pur (Pur.assign rfl) ?_
  refine WL.nil ?_
  refine WQ.thn ?_
  refine WC.seq ?_
  refine WC.region ?_
  refine WL.pur (Pur.move rfl) ?_
  refine' WL.pur (Pur.bin rfl rfl ?h1_0) ?k1
  case h1_0 => exact Bin.neP isPtr_167
  refine WL.nil ?_
  refine WQ.thn ?_
  first | refine WC.cond rfl (fun hc0 => ?_) (fun hc0 => ?_) | refine WC.condB rfl (fun hc0 => ?_) (fun hc0 => ?_)
  · obtain ⟨cb, iv, zv, h1, h2, rfl, hmg, hp, hI, hZ⟩ := hor.resolve_left (fun he => hc0 he.1)
    refine WC.giveC cntC_give (v := .pointer (some ⟨cb, 0, none⟩)) (H1 := [(bm, mapO Value.string ents)]) (H2 := rest ++ Hr) (h := hk) (cntT_len ho key) ⟨cb, iv, zv, h1, h2, rfl, hp, hI, hZ⟩ rfl (fun σ2 hle2 hC => ?_)
    obtain ⟨_, iv2, zv2, he, hr2, hI2, hZ2⟩ := hC
    cases he
    refine WC.seq ?_
    refine WC.region ?_
    refine WL.pur (Pur.move rfl) ?_
    refine WL.pur (Pur.move rfl) ?_
    refine WL.call (H0 := []) (Hr := _) rfl Tryz.call110 (List.Perm.refl _) (counter_value _ _ _ _ L _ _ cb (h.mono (View.le_trans hle1 hle2)) ho hr2 hI2 hZ2 cntT_lt cntT_lt) ?_
    rintro _ σ3 _ ⟨rfl, rfl⟩ hle3
    rw [List.nil_append, cnt_told]
    refine WL.pur (Pur.assign rfl) ?_
    refine WL.nil ?_
    refine WQ.thn ?_
    refine WC.ret ?_
    refine WQ.thn_ret ?_
    refine WQ.ret1 Tryz.results32 rfl [] (List.Sublist.cons _ (List.sublist_append_right rest Hr)) (View.le_trans hle1 (View.le_trans hle2 hle3)) ?_
    exact ⟨rfl, rfl⟩
  · obtain ⟨rfl, hfe, rfl⟩ := hor.resolve_right (fun ⟨_, _, _, _, _, he, _⟩ => hc0 (by rw [he]; exact fun h => by cases h))
    have hz : cntV L key = 0 := by rw [← cnt_told, hfe]; rfl
    refine WC.skip ?_
    refine WQ.thn ?_
    refine WC.seq ?_
    refine WC.region ?_
    refine WL.pur (Pur.assign rfl) ?_
    refine WL.nil ?_
    refine WQ.thn ?_
    refine WC.ret ?_
    refine WQ.ret1 Tryz.results32 rfl [] (List.Sublist.cons _ (List.sublist_append_right rest Hr)) hle1 ?_
    exact ⟨by rw [hz], rfl⟩

end Go.Proofs.YtgoooilgmabkmaaGreat
namespace Go.Proofs.YtgoooilgmabkmaaGreat
open Go Go.Sl
set_option linter.unusedVariables false
set_option linter.unusedSimpArgs false
set_option maxRecDepth 100000

theorem counts_Keys (σ : View) (pv : Value) (L : List EntD) (h : PastV σ pv L) (ho : OrdOk L) :
    Tri Tryz.prog 41 #[pv] σ [] (fun v σ' H' => ∃ h, SlO σ' eStr 9 1 v (cntKeys L) h ∧ H' = h) := by
  have hN : (cntT L).length ≤ L.length * 1024 := tripsN_len ho (isKind 6 7) L.length
  have hmost := ho.most
  have hkl := keysG_len cntKey (cntT L)
  refine Tri.of_body [(0, pv)] Tryz.func41 rfl Tryz.ntmps41 (by simp) rfl (fun Hr => ?_)
  rw [List.nil_append]
  refine WC.seq ?_
  refine WC.region ?_
  refine WL.pur (Pur.assign rfl) ?_
  refine WL.nil ?_
  refine WQ.thn ?_
  refine WC.seq ?_
  refine WC.region ?_
  refine WL.pur (Pur.assign rfl) ?_
  refine WL.nil ?_
  refine WQ.thn ?_
  refine WC.seq ?_
  refine WC.seq ?_
  refine WC.region ?_
  refine WL.pur (Pur.move rfl) ?_
  refine WL.call (H0 := []) (Hr := Hr) rfl Tryz.call109 (List.Perm.refl _) (counts_all _ _ L h ho) ?_
  rintro _ σ1 H1 ⟨bm, rfl, hK⟩ hle1
  obtain ⟨svs, hs, hperm, hC⟩ := KG.all hK
  refine WL.perm (H0 := (bm, mapO Value.string ((keysG cntKey (cntT L)).map fun k => (k, svs k))) :: ((keysG cntKey (cntT L)).flatMap hs ++ Hr)) ?_ (by have := (hperm.append_right Hr).symm; simpa using this)
  refine WL.giveG cntC_give cntC_mono cntK_mono (H1 := [(bm, _)]) (H2 := Hr) (fun k _ => cntT_len ho k) hC rfl (fun σ2 hle2 hCK => ?_)
  refine WL.give (H1 := []) (H2 := Hr) (fun hbm => ?_)
  rw [List.nil_append]
  have hle3 := View.le_add (mapO Value.string ((keysG cntKey (cntT L)).map fun k => (k, svs k))) hbm
  have hmap : (σ2.add bm (mapO Value.string ((keysG cntKey (cntT L)).map fun k => (k, svs k)))) bm = some (mapO Value.string ((keysG cntKey (cntT L)).map fun k => (k, svs k))) := View.add_same _ _ _
  generalize σ2.add bm (mapO Value.string ((keysG cntKey (cntT L)).map fun k => (k, svs k))) = σ3 at hle3 hmap ⊢
  have h3 := h.mono (View.le_trans hle1 (View.le_trans hle2 hle3))
  have hCK3 := fun k hk => cntK_mono hle3 _ _ (hCK k hk)
  refine WL.new (New.range (K := Value.string) (l := ((keysG cntKey (cntT L)).map fun k => (k, svs k))) rfl mt_168 (.inr hmap)) (fun b8 => ?_)
  refine WL.nil ?_
  refine WQ.thn ?_
  refine WC.block ?_
  refine WC.loop (fun j m σ' H' => ∃ (seen : List Nat) (sv : Value) (hl : HList), j = ((keysG cntKey (cntT L)).map fun k => (k, svs k)).length - seen.length ∧ seen.Nodup ∧ (∀ i ∈ seen, i < ((keysG cntKey (cntT L)).map fun k => (k, svs k)).length) ∧ SlO σ' eStr 9 1 sv ((seenK (keysG cntKey (cntT L)) seen).filter (fun k => decide (cntV L k ≠ 0))) hl ∧ σ3.le σ' ∧ m = [(0, pv), (3, sv), (8, .pointer (some ⟨b8, 0, none⟩))] ∧ H' = (b8, iterO bm ((keysG cntKey (cntT L)).map fun k => (k, svs k)).length seen) :: (hl ++ Hr)) ⟨[], .slice none 0 0, [], rfl, List.nodup_nil, by simp, SlO.nil, View.le_refl _, rfl, rfl⟩ zcV zsL ?_
  rintro _ _ σ Hr ⟨seen, sv, hl, rfl, hnd, hbd, hso, hle4, rfl, rfl⟩
  have hmap4 := hle4.2 _ _ hmap
  refine WC.seq ?_
  refine WC.region ?_
  refine WL.any (Any.next (K := Value.string) (b := bm) (l := ((keysG cntKey (cntT L)).map fun k => (k, svs k))) (Hf := fun s => (b8, iterO bm ((keysG cntKey (cntT L)).map fun k => (k, svs k)).length s) :: (hl ++ Hr)) rfl (fun s => Part.one) (.inr hmap4)) ?_
  rintro _ _ _ ⟨more, seen', key, x, hnx, rfl, rfl, rfl⟩ _
  first | refine WL.pur (Pur.ex2_0 rfl) ?_ | refine WL.pur (Pur.ex3_0 rfl) ?_ | refine WL.pur (Pur.extractNext rfl) ?_ | refine WL.pur (Pur.extract rfl rfl) ?_
  refine WL.nil ?_
  refine WQ.thn ?_
  refine WC.seq ?_
  first | refine WC.cond rfl (fun hc0 => ?_) (fun hc0 => ?_) | refine WC.condB rfl (fun hc0 => ?_) (fun hc0 => ?_)
  · obtain ⟨i, hi1, hi2, rfl⟩ := hnx.1 hc0
    have hi3 : i < ((keysG cntKey (cntT L)).map fun k => (k, svs k)).length := (List.getElem?_eq_some_iff.1 hi2).1
    have hi4 : (keysG cntKey (cntT L))[i]? = some key ∧ svs key = x := by
      have hi5 := hi2
      rw [List.getElem?_map] at hi5
      cases hk : (keysG cntKey (cntT L))[i]? with
      | none => rw [hk] at hi5; cases hi5
      | some k' =>
        rw [hk] at hi5
        simp only [Option.map_some, Option.some.injEq, Prod.mk.injEq] at hi5
        exact ⟨by rw [hi5.1], by rw [← hi5.1]; exact hi5.2⟩
    obtain ⟨hik, hsx⟩ := hi4
    have hkm := List.mem_of_getElem? hik
    obtain ⟨cb, iv, zv, hsv, hr2, hI2, hZ2⟩ := cntK_mono hle4 _ _ (hCK3 key hkm)
    rw [hsv] at hsx
    subst hsx
    have hlt := seen_lt hnd hbd hi1 hi3
    have hkok : StrOk key := by
      obtain ⟨t, ht, rfl⟩ := (keysG_mem cntKey key _).1 hkm
      exact (cnt_opsOk h _ _ (List.mem_of_getElem? (tripsN_mem ht).2.2.1)).2.1
    have hnd2 : (seen ++ [i]).Nodup := List.nodup_append.2 ⟨hnd, by simp, fun a ha b hb he => by simp at hb; subst hb; subst he; exact hi1 ha⟩
    have hbd2 : ∀ k ∈ seen ++ [i], k < ((keysG cntKey (cntT L)).map fun k => (k, svs k)).length := fun k hk => by
      rcases List.mem_append.1 hk with hk | hk
      · exact hbd k hk
      · simp at hk; subst hk; exact hi3
    have hKl : ((keysG cntKey (cntT L)).map fun k => (k, svs k)).length = (keysG cntKey (cntT L)).length := List.length_map _
    have hfl : ((seenK (keysG cntKey (cntT L)) seen).filter (fun k => decide (cntV L k ≠ 0))).length ≤ seen.length := Nat.le_trans (List.length_filter_le _ _) seenK_len
    refine WC.skip ?_
    refine WQ.thn ?_
    refine WC.block ?_
    refine WC.seq ?_
    refine WC.region ?_
    refine WL.pur (Pur.entry (K := Value.string) (b := bm) (seen := seen) rfl (by repeat (first | exact List.Mem.head _ | apply List.Mem.tail | apply List.mem_append_right)) (.inr hmap4) hi2) ?_
    first | refine WL.pur (Pur.ex2_0 rfl) ?_ | refine WL.pur (Pur.ex3_0 rfl) ?_ | refine WL.pur (Pur.extractNext rfl) ?_ | refine WL.pur (Pur.extract rfl rfl) ?_
    first | refine WL.pur (Pur.ex2_1 rfl) ?_ | refine WL.pur (Pur.ex3_1 rfl) ?_ | refine WL.pur (Pur.extract rfl rfl) ?_
    refine WL.pur (Pur.assign rfl) ?_
    refine WL.pur (Pur.assign rfl) ?_
    refine WL.nil ?_
    refine WQ.thn ?_
    refine WC.seq ?_
    refine WC.region ?_
    refine WL.pur (Pur.move rfl) ?_
    refine WL.pur (Pur.move rfl) ?_
    refine WL.call (H0 := []) (Hr := (b8, iterO bm ((keysG cntKey (cntT L)).map fun k => (k, svs k)).length (seen ++ [i])) :: (hl ++ Hr)) rfl Tryz.call110 (List.Perm.refl _) (counter_value _ _ _ _ L _ _ cb (h3.mono hle4) ho hr2 hI2 hZ2 cntT_lt cntT_lt) ?_
    rintro _ σ5 _ ⟨rfl, rfl⟩ hle5
    rw [List.nil_append, cnt_told]
    refine' WL.pur (Pur.bin rfl rfl ?h1_0) ?k1
    case h1_0 => first | exact Bin.neN (b := 0) | exact Bin.neI
    refine WL.nil ?_
    refine WQ.thn ?_
    first | refine WC.cond rfl (fun hc1 => ?_) (fun hc1 => ?_) | refine WC.condB rfl (fun hc1 => ?_) (fun hc1 => ?_)
    · refine WC.region ?_
      refine WL.pur (Pur.move rfl) ?_
      refine WL.pur (Pur.move rfl) ?_
      refine WL.new (New.buildSliceS (xs := [.tmp 19]) sl_23 zc_9 rfl rfl rfl (by rfl) (by rfl)) (fun b20 => ?_)
      refine' WL.any (Any.push (H1 := [(b20, _), (b8, _)]) (H2 := Hr) sl_23 zc_9 rfl by_9 rfl rfl (hso.mono eStr_mono hle5) ?h2_0 ?h2_1 ?h2_2 ?h2_3 rfl (by omega) (by omega)) ?k2
      case h2_0 => apply Rd.own_sub; exact zmE; exact Sub.refl _
      case h2_1 => first | rfl | assumption
      case h2_2 => first | rfl | assumption
      case h2_3 => exact ⟨rfl, hkok⟩
      rintro v21 σ _ ⟨hl3, hso3, rfl, rfl⟩ _
      refine WL.pur (Pur.assign rfl) ?_
      refine WL.nil ?_
      refine WQ.blk ?_
      refine WQ.back _ ⟨seen ++ [i], _, _, rfl, hnd2, hbd2, by rw [seenK_snoc hik, List.filter_append, show [key].filter (fun k => decide (cntV L k ≠ 0)) = [key] from by simp [hc1]]; exact hso3, View.le_trans hle4 hle5, rfl, rfl⟩ (by rw [List.length_append]; simp only [List.length_cons, List.length_nil]; omega) zcV zsL
    · refine WC.skip ?_
      refine WQ.blk ?_
      refine WQ.back _ ⟨seen ++ [i], sv, hl, rfl, hnd2, hbd2, by rw [seenK_snoc hik, List.filter_append, show [key].filter (fun k => decide (cntV L k ≠ 0)) = [] from by simpa using hc1, List.append_nil]; exact hso.mono eStr_mono hle5, View.le_trans hle4 hle5, rfl, rfl⟩ (by rw [List.length_append]; simp only [List.length_cons, List.length_nil]; omega) zcV zsL
  · obtain ⟨hall, hse⟩ := hnx.2 hc0
    have hse := hse.symm
    subst hse
    have hKl : ((keysG cntKey (cntT L)).map fun k => (k, svs k)).length = (keysG cntKey (cntT L)).length := List.length_map _
    have hsl0 := seen_len hnd hbd
    have hfl : ((seenK (keysG cntKey (cntT L)) seen).filter (fun k => decide (cntV L k ≠ 0))).length ≤ seen.length := Nat.le_trans (List.length_filter_le _ _) seenK_len
    have hfin := cntKeys_final (L := L) hnd (fun i hi => hall i (by rw [hKl]; exact hi))
    refine WC.exit ?_
    refine WQ.thn_exit ?_
    refine WQ.back_exit ?_
    refine WQ.blk_here ?_
    refine WQ.thn ?_
    refine WC.seq ?_
    refine WC.region ?_
    refine WL.pur (Pur.move rfl) ?_
    refine WL.call (H0 := hl) (Hr := (b8, iterO bm ((keysG cntKey (cntT L)).map fun k => (k, svs k)).length seen) :: Hr) rfl Tryz.call102 List.perm_middle (slices_Sort _ sv _ hl hso (by omega)) ?_
    rintro v23 _ hl2 ⟨hso2, rfl⟩ _
    refine WL.nil ?_
    refine WQ.thn ?_
    refine WC.seq ?_
    refine WC.region ?_
    refine WL.pur (Pur.move rfl) ?_
    refine WL.pur (Pur.assign rfl) ?_
    refine WL.nil ?_
    refine WQ.thn ?_
    refine WC.ret ?_
    refine WQ.ret1 Tryz.results41 rfl hl2 (List.Sublist.append_left (List.Sublist.cons _ (List.Sublist.refl _)) _) (View.le_trans hle1 (View.le_trans hle2 (View.le_trans hle3 hle4))) ?_
    exact ⟨_, by rw [← hfin]; exact hso2, rfl⟩

end Go.Proofs.YtgoooilgmabkmaaGreat
namespace Go.Proofs.YtgoooilgmabkmaaGreat
open Go Go.Sl
set_option linter.unusedVariables false
set_option linter.unusedSimpArgs false
set_option maxRecDepth 100000

theorem cntT_B : cntT [fA, fB] = [(0, 1, opA), (1, 1, opB1), (1, 2, opB2)] := by rfl
theorem cntKeys_B : cntKeys [fA, fB] = [kB] := by
  refine sortedB_ext _ _ (cntKeys_sorted _) (List.pairwise_singleton _ _) fun x => ?_
  rw [cntKeys_mem, List.mem_singleton]
  constructor
  · intro h
    obtain ⟨t, ht, rfl⟩ := (keysG_mem cntKey x _).1 (cntV_in h)
    rw [cntT_B] at ht
    simp only [List.mem_cons, List.not_mem_nil, or_false] at ht
    rcases ht with rfl | rfl | rfl <;> rfl
  · rintro rfl
    rw [cntB_k]; decide

theorem law16_fixed (σ : View) :
    Tri Tryz.prog 31 #[] σ [] (fun v σ' H' => v = .bool true ∧ H' = []) := by
  refine Tri.of_body [] Tryz.func31 rfl Tryz.ntmps31 (by simp) rfl (fun Hr => ?_)
  rw [List.nil_append]
  refine WC.seq ?_
  refine WC.region ?_
  refine WL.pur (Pur.assign rfl) ?_
  refine WL.nil ?_
  refine WQ.thn ?_
  refine WC.seq ?_
  refine WC.region ?_
  refine WL.pur (Pur.buildA (us := (hashCells (2 ^ 248))) zc_39 ar_39 rfl rfl rfl) ?_
  refine WL.pur (Pur.buildA (us := (hashCells (2 ^ 249))) zc_39 ar_39 rfl rfl rfl) ?_
  refine WL.new (New.alloc zc_39) (fun b1 => ?_)
  refine WL.new (New.alloc zc_39) (fun b2 => ?_)
  refine' WL.run0 (Run.storeAll rfl rfl ty_39 ?h1_0 (by first | rfl | assumption) ?h1_1 (by first | rfl | assumption)) ?k1
  case h1_0 => repeat (first | exact Part.one | exact Part.here | apply Part.cons | apply Part.app)
  case h1_1 => first | rfl | assumption
  refine' WL.run0 (Run.storeAll rfl rfl ty_39 ?h2_0 (by first | rfl | assumption) ?h2_1 (by first | rfl | assumption)) ?k2
  case h2_0 => repeat (first | exact Part.one | exact Part.here | apply Part.cons | apply Part.app)
  case h2_1 => first | rfl | assumption
  refine WL.nil ?_
  refine WQ.thn ?_
  refine WC.seq ?_
  refine WC.region ?_
  refine' WL.pur (Pur.loadN rfl ty_39 ?h3_0 ?h3_1) ?k3
  case h3_0 => first | (apply Rd.own_sub; exact zmE; exact Sub.refl _) | (apply RdV.rd; assumption)
  case h3_1 => first | rfl | assumption
  refine WL.pur (Pur.build (l := (opCells 6 kB ByteArray.empty 5 0 0)) pl_51 zc_51 rfl rfl) ?_
  refine WL.new (New.buildSliceN (xs := [.tmp 15]) (vss := [opCells 6 kB ByteArray.empty 5 0 0]) sl_40 zc_51 rfl rfl rfl (by rfl) (by rfl)) (fun b16 => ?_)
  refine WL.pur (Pur.build (l := nodeCells _ _ _ _) pl_43 zc_43 rfl rfl) ?_
  refine WL.pur (Pur.build (l := entCells _ _ _ _ _) pl_45 zc_45 rfl rfl) ?_
  refine WL.new (New.alloc zc_45) (fun b3 => ?_)
  refine' WL.run0 (Run.storeAll rfl rfl ty_45 ?h4_0 (by first | rfl | assumption) ?h4_1 (by first | rfl | assumption)) ?k4
  case h4_0 => repeat (first | exact Part.one | exact Part.here | apply Part.cons | apply Part.app)
  case h4_1 => first | rfl | assumption
  refine WL.nil ?_
  refine WQ.thn ?_
  refine WC.seq ?_
  refine WC.region ?_
  refine' WL.pur (Pur.loadN rfl ty_39 ?h5_0 ?h5_1) ?k5
  case h5_0 => first | (apply Rd.own_sub; exact zmE; exact Sub.refl _) | (apply RdV.rd; assumption)
  case h5_1 => first | rfl | assumption
  refine' WL.pur (Pur.loadN rfl ty_39 ?h6_0 ?h6_1) ?k6
  case h6_0 => first | (apply Rd.own_sub; exact zmE; exact Sub.refl _) | (apply RdV.rd; assumption)
  case h6_1 => first | rfl | assumption
  refine WL.new (New.buildSliceN (xs := [.tmp 20]) (vss := [hashCells (2 ^ 248)]) sl_41 zc_39 rfl rfl rfl (by rfl) (by rfl)) (fun b21 => ?_)
  refine WL.pur (Pur.build (l := (opCells 7 kB ByteArray.empty 0 0 0)) pl_51 zc_51 rfl rfl) ?_
  refine WL.pur (Pur.build (l := (opCells 6 kB ByteArray.empty 2 0 0)) pl_51 zc_51 rfl rfl) ?_
  refine WL.new (New.buildSliceN (xs := [.tmp 22, .tmp 23]) (vss := [opCells 7 kB ByteArray.empty 0 0 0, opCells 6 kB ByteArray.empty 2 0 0]) sl_40 zc_51 rfl rfl rfl (by rfl) (by rfl)) (fun b24 => ?_)
  refine WL.pur (Pur.build (l := nodeCells _ _ _ _) pl_43 zc_43 rfl rfl) ?_
  refine WL.pur (Pur.build (l := entCells _ _ _ _ _) pl_45 zc_45 rfl rfl) ?_
  refine WL.new (New.alloc zc_45) (fun b4 => ?_)
  refine' WL.run0 (Run.storeAll rfl rfl ty_45 ?h7_0 (by first | rfl | assumption) ?h7_1 (by first | rfl | assumption)) ?k7
  case h7_0 => repeat (first | exact Part.one | exact Part.here | apply Part.cons | apply Part.app)
  case h7_1 => first | rfl | assumption
  refine WL.nil ?_
  refine WQ.thn ?_
  refine WC.seq ?_
  refine WC.region ?_
  refine' WL.pur (Pur.loadN rfl ty_45 ?h8_0 ?h8_1) ?k8
  case h8_0 => first | (apply Rd.own_sub; exact zmE; exact Sub.refl _) | (apply RdV.rd; assumption)
  case h8_1 => first | rfl | assumption
  refine WL.new (New.buildSliceN (xs := [.tmp 28]) (vss := [entCells (2 ^ 248) 1 1 (.slice none 0 0) (.slice (some ⟨b16, 0, none⟩) 1 1)]) sl_22 zc_45 rfl rfl rfl (by rfl) (by rfl)) (fun b29 => ?_)
  refine WL.giveS (E := eOp) (byt := 88) (H1 := [(b29, _), (b4, _), (b24, _), (b21, _), (b3, _)]) (H2 := (b2, _) :: (b1, _) :: Hr) eOp_mono (SlO.row (T := 51) (b := b16) (ElR.single (σ := σ) (sz := 37) (x := opA) rfl rfl ⟨rfl, opA_ok⟩)) (by decide) rfl (fun σ1 hle1 hsA => ?_)
  simp only [List.cons_append, List.nil_append]
  refine WL.giveS (E := eHash) (byt := 32) (H1 := [(b29, _), (b4, _), (b24, _)]) (H2 := (b3, _) :: (b2, _) :: (b1, _) :: Hr) eHash_mono (SlO.row (T := 39) (b := b21) (ElR.single (σ := σ1) (sz := 32) (x := 2 ^ 248) rfl rfl ⟨rfl, idA_isH⟩)) (by decide) rfl (fun σ2 hle2 hsP => ?_)
  simp only [List.cons_append, List.nil_append]
  refine WL.giveS (E := eOp) (byt := 88) (H1 := [(b29, _), (b4, _)]) (H2 := (b3, _) :: (b2, _) :: (b1, _) :: Hr) eOp_mono (SlO.row (T := 51) (b := b24) (l := [opB1, opB2]) (show ElR σ2 eOp 37 [opB1, opB2] [opCells 7 kB ByteArray.empty 0 0 0, opCells 6 kB ByteArray.empty 2 0 0] from (ElR.single (x := opB1) rfl rfl ⟨rfl, opB1_ok⟩).push (x := opB2) rfl rfl ⟨rfl, opB2_ok⟩)) (by decide) rfl (fun σ3 hle3 hsB => ?_)
  simp only [List.cons_append, List.nil_append]
  refine WL.giveS (E := eEnt) (byt := 96) (H1 := []) (H2 := (b4, _) :: (b3, _) :: (b2, _) :: (b1, _) :: Hr) eEnt_mono (SlO.row (T := 45) (b := b29) (ElR.single (σ := σ3) (sz := 36) (x := fA) rfl rfl ⟨_, _, rfl, idA_isH, SlE.nilS, hsA.mono eOp_mono (View.le_trans hle2 hle3), by unfold I64; decide, by unfold I64; decide⟩)) (by decide) rfl (fun σ4 hle4 hsl => ?_)
  rw [List.nil_append]
  refine WL.call (H0 := []) (Hr := (b4, _) :: (b3, _) :: (b2, _) :: (b1, _) :: Hr) rfl Tryz.call23 (List.Perm.refl _) (past_Of2 _ _ [fA] hsl) ?_
  rintro _ σ5 _ ⟨⟨pa, n5, rfl, hpp, hpn⟩, rfl⟩ hle5
  rw [List.nil_append]
  have hp5 := hpp rightA
  rw [ordA] at hp5
  refine WL.pur (Pur.move rfl) ?_
  first | refine WL.pur (Pur.ex2_0 rfl) ?_ | refine WL.pur (Pur.ex3_0 rfl) ?_ | refine WL.pur (Pur.extractNext rfl) ?_ | refine WL.pur (Pur.extract rfl rfl) ?_
  first | refine WL.pur (Pur.ex2_1 rfl) ?_ | refine WL.pur (Pur.ex3_1 rfl) ?_ | refine WL.pur (Pur.extract rfl rfl) ?_
  first | refine WL.pur (Pur.ex3_2 rfl) ?_ | refine WL.pur (Pur.extract rfl rfl) ?_
  refine WL.pur (Pur.assign rfl) ?_
  refine WL.pur (Pur.assign rfl) ?_
  refine WL.pur (Pur.assign rfl) ?_
  refine WL.nil ?_
  refine WQ.thn ?_
  refine WC.seq ?_
  refine WC.region ?_
  refine' WL.pur (Pur.loadN rfl ty_45 ?h9_0 ?h9_1) ?k9
  case h9_0 => first | (apply Rd.own_sub; exact zmE; exact Sub.refl _) | (apply RdV.rd; assumption)
  case h9_1 => first | rfl | assumption
  refine' WL.pur (Pur.loadN rfl ty_45 ?h10_0 ?h10_1) ?k10
  case h10_0 => first | (apply Rd.own_sub; exact zmE; exact Sub.refl _) | (apply RdV.rd; assumption)
  case h10_1 => first | rfl | assumption
  refine WL.new (New.buildSliceN (xs := [.tmp 35, .tmp 36]) (vss := [entCells (2 ^ 249) 1 2 (.slice (some ⟨b21, 0, none⟩) 1 1) (.slice (some ⟨b24, 0, none⟩) 2 2), entCells (2 ^ 248) 1 1 (.slice none 0 0) (.slice (some ⟨b16, 0, none⟩) 1 1)]) sl_22 zc_45 rfl rfl rfl (by rfl) (by rfl)) (fun b37 => ?_)
  refine WL.giveS (E := eEnt) (byt := 96) (H1 := []) (H2 := (b4, _) :: (b3, _) :: (b2, _) :: (b1, _) :: Hr) eEnt_mono (SlO.row (T := 45) (b := b37) (l := [fB, fA]) (show ElR σ5 eEnt 36 [fB, fA] [entCells (2 ^ 249) 1 2 (.slice (some ⟨b21, 0, none⟩) 1 1) (.slice (some ⟨b24, 0, none⟩) 2 2), entCells (2 ^ 248) 1 1 (.slice none 0 0) (.slice (some ⟨b16, 0, none⟩) 1 1)] from (ElR.single (x := fB) rfl rfl ⟨_, _, rfl, idB_isH, hsP.mono eHash_mono (View.le_trans hle3 (View.le_trans hle4 hle5)), hsB.mono eOp_mono (View.le_trans hle4 hle5), by unfold I64; decide, by unfold I64; decide⟩).push (x := fA) rfl rfl ⟨_, _, rfl, idA_isH, SlE.nilS, hsA.mono eOp_mono (View.le_trans hle2 (View.le_trans hle3 (View.le_trans hle4 hle5))), by unfold I64; decide, by unfold I64; decide⟩)) (by decide) rfl (fun σ6 hle6 hsl2 => ?_)
  rw [List.nil_append]
  refine WL.call (H0 := []) (Hr := (b4, _) :: (b3, _) :: (b2, _) :: (b1, _) :: Hr) rfl Tryz.call23 (List.Perm.refl _) (past_Of2 _ _ [fB, fA] hsl2) ?_
  rintro _ σ7 _ ⟨⟨qa, n7, rfl, hqq, hqn⟩, rfl⟩ hle7
  rw [List.nil_append]
  have hq7 := hqq rightB
  rw [ordB] at hq7
  refine WL.pur (Pur.move rfl) ?_
  first | refine WL.pur (Pur.ex2_0 rfl) ?_ | refine WL.pur (Pur.ex3_0 rfl) ?_ | refine WL.pur (Pur.extractNext rfl) ?_ | refine WL.pur (Pur.extract rfl rfl) ?_
  first | refine WL.pur (Pur.ex2_1 rfl) ?_ | refine WL.pur (Pur.ex3_1 rfl) ?_ | refine WL.pur (Pur.extract rfl rfl) ?_
  first | refine WL.pur (Pur.ex3_2 rfl) ?_ | refine WL.pur (Pur.extract rfl rfl) ?_
  refine WL.pur (Pur.assign rfl) ?_
  refine WL.pur (Pur.assign rfl) ?_
  refine WL.pur (Pur.assign rfl) ?_
  refine WL.nil ?_
  refine WQ.thn ?_
  refine WC.seq ?_
  refine WC.seq ?_
  refine WC.region ?_
  refine WL.pur (Pur.move rfl) ?_
  refine' WL.pur (Pur.bin rfl rfl ?h11_0) ?k11
  case h11_0 => exact Bin.eqP isPtr_25
  refine WL.pur (Pur.move rfl) ?_
  refine' WL.orp (u := 44) (t := 47) rfl ?h12_0 ?h12_1 ?h12_2 rfl ?k12
  case h12_0 =>
    intro hg44 K44
    refine WL.gpur (u := 44) rfl rfl (gF hg44) (Pur.move rfl) ?_
    refine' WL.gpur (u := 44) rfl rfl (gF hg44) (Pur.bin rfl rfl ?h13_0) ?k13
    case h13_0 => exact Bin.eqP isPtr_25
    exact K44 _ zcR rfl
  case h12_1 =>
    intro hg44 K44
    refine WL.gskip (u := 44) rfl rfl (sF hg44) ?_
    refine WL.gskip (u := 44) rfl rfl (sF hg44) ?_
    exact K44 _ zcR
  case h12_2 => exact Wanted.plain rfl
  refine WL.pur (Pur.move rfl) ?_
  refine' WL.orp (u := 48) (t := 51) rfl ?h14_0 ?h14_1 ?h14_2 rfl ?k14
  case h14_0 =>
    intro hg48 K48
    refine WL.gpur (u := 48) rfl rfl (gF hg48) (Pur.move rfl) ?_
    refine' WL.gpur (u := 48) rfl rfl (gF hg48) (Pur.bin rfl rfl ?h15_0) ?k15
    case h15_0 => first | exact Bin.neN (b := 0) | exact Bin.neI
    exact K48 _ zcR rfl
  case h14_1 =>
    intro hg48 K48
    refine WL.gskip (u := 48) rfl rfl (sF hg48) ?_
    refine WL.gskip (u := 48) rfl rfl (sF hg48) ?_
    exact K48 _ zcR
  case h14_2 => exact Wanted.plain rfl
  refine WL.pur (Pur.move rfl) ?_
  refine' WL.orp (u := 52) (t := 55) rfl ?h16_0 ?h16_1 ?h16_2 rfl ?k16
  case h16_0 =>
    intro hg52 K52
    refine WL.gpur (u := 52) rfl rfl (gF hg52) (Pur.move rfl) ?_
    refine' WL.gpur (u := 52) rfl rfl (gF hg52) (Pur.bin rfl rfl ?h17_0) ?k17
    case h17_0 => first | exact Bin.neN (b := 0) | exact Bin.neI
    exact K52 _ zcR rfl
  case h16_1 =>
    intro hg52 K52
    refine WL.gskip (u := 52) rfl rfl (sF hg52) ?_
    refine WL.gskip (u := 52) rfl rfl (sF hg52) ?_
    exact K52 _ zcR
  case h16_2 => exact Wanted.plain rfl
  refine WL.nil ?_
  refine WQ.thn ?_
  first | refine WC.cond rfl (fun hc0 => ?_) (fun hc0 => ?_) | refine WC.condB rfl (fun hc0 => ?_) (fun hc0 => ?_)
  · obtain ⟨_, _, _, _, hpe, _⟩ := hp5
    obtain ⟨_, _, _, _, hqe, _⟩ := hq7
    rcases hc0 with ((hc | hc) | hc) | hc
    · subst hc; cases hpe
    · subst hc; cases hqe
    · exact absurd rightA hc
    · exact absurd rightB hc
  · refine WC.skip ?_
    refine WQ.thn ?_
    refine WC.seq ?_
    refine WC.region ?_
    refine WL.pur (Pur.move rfl) ?_
    refine WL.call (H0 := []) (Hr := (b4, _) :: (b3, _) :: (b2, _) :: (b1, _) :: Hr) rfl Tryz.call41 (List.Perm.refl _) (counts_Keys _ _ [fA, fB] hq7 okB) ?_
    rintro _ σ8 _ ⟨_, hso8, rfl⟩ hle8
    rw [cntKeys_B] at hso8
    refine WL.giveS (byt := 16) (H1 := []) (H2 := (b4, _) :: (b3, _) :: (b2, _) :: (b1, _) :: Hr) eStr_mono hso8 (by decide) rfl (fun σ9 hle9 hK0 => ?_)
    rw [List.nil_append]
    refine WL.pur (Pur.assign rfl) ?_
    refine WL.nil ?_
    refine WQ.thn ?_
    refine WC.seq ?_
    refine WC.region ?_
    refine WL.pur (Pur.move rfl) ?_
    refine WL.call (H0 := []) (Hr := (b4, _) :: (b3, _) :: (b2, _) :: (b1, _) :: Hr) rfl Tryz.call32 (List.Perm.refl _) (counts_Value _ _ [fA] kB (hp5.mono (View.le_trans hle6 (View.le_trans hle7 (View.le_trans hle8 hle9)))) okA) ?_
    rintro _ σ10 _ ⟨rfl, rfl⟩ hle10
    rw [List.nil_append, cntA_k]
    have hK := hK0.mono eStr_mono hle10
    obtain ⟨ka, kc, rfl, hkc, _⟩ := hK.shape
    obtain ⟨kb, koff, hea⟩ := addr_of hK
    refine' WL.pur (Pur.bin rfl rfl ?h18_0) ?k18
    case h18_0 => first | exact Bin.eqN (b := 5) | exact Bin.eqI
    refine WL.pur (Pur.move rfl) ?_
    refine' WL.andp (u := 61) (t := 65) rfl ?h19_0 ?h19_1 ?h19_2 rfl ?k19
    case h19_0 =>
      intro hg61 K61
      refine WL.gpur (u := 61) rfl rfl (gT hg61) (Pur.move rfl) ?_
      refine WL.gcallR (H0 := []) (u := 61) rfl rfl (gT hg61) rfl Tryz.call32 (List.Perm.refl _) (counts_Value _ _ [fA, fB] kB (hq7.mono (View.le_trans hle8 (View.le_trans hle9 hle10))) okB) ?_
      rintro v63 σ11 _ ⟨rfl, rfl⟩ hle11
      rw [List.nil_append, cntB_k]
      refine' WL.gpur (u := 61) rfl rfl (gT hg61) (Pur.bin rfl rfl ?h20_0) ?k20
      case h20_0 => first | exact Bin.eqN (b := 2) | exact Bin.eqI
      refine WL.le hle11 ?_
      exact K61 _ zcR rfl
    case h19_1 =>
      intro hg61 K61
      refine WL.gskip (u := 61) rfl rfl (sT hg61) ?_
      refine WL.gskip (u := 61) rfl rfl (sT hg61) ?_
      refine WL.gskip (u := 61) rfl rfl (sT hg61) ?_
      exact K61 _ zcR
    case h19_2 => exact Wanted.plain rfl
    refine WL.pur (Pur.move rfl) ?_
    refine' WL.andp (u := 66) (t := 70) rfl ?h21_0 ?h21_1 ?h21_2 rfl ?k21
    case h21_0 =>
      intro hg66 K66
      refine WL.gpur (u := 66) rfl rfl (gT hg66) (Pur.move rfl) ?_
      refine WL.gpur (u := 66) rfl rfl (gT hg66) (Pur.len rfl isSlice_23) ?_
      refine' WL.gpur (u := 66) rfl rfl (gT hg66) (Pur.bin rfl rfl ?h22_0) ?k22
      case h22_0 => first | exact Bin.eqN (b := 1) | exact Bin.eqI
      exact K66 _ zcR rfl
    case h21_1 =>
      intro hg66 K66
      refine WL.gskip (u := 66) rfl rfl (sT hg66) ?_
      refine WL.gskip (u := 66) rfl rfl (sT hg66) ?_
      refine WL.gskip (u := 66) rfl rfl (sT hg66) ?_
      exact K66 _ zcR
    case h21_2 => exact Wanted.plain rfl
    refine WL.pur (Pur.move rfl) ?_
    refine' WL.andp (u := 71) (t := 76) rfl ?h23_0 ?h23_1 ?h23_2 rfl ?k23
    case h23_0 =>
      intro hg71 K71
      have hr1 := str_rd hK hea (show 0 < [kB].length by decide)
      refine WL.gpur (u := 71) rfl rfl (gT hg71) (Pur.move rfl) ?_
      refine' WL.gpur (u := 71) rfl rfl (gT hg71) (Pur.indexAddr (i := 0) (eqA (hea (by decide))) rfl sl_23 ?h24_0) ?k24
      case h24_0 => decide
      refine' WL.gpur (u := 71) rfl rfl (gT hg71) (Pur.load1 rfl ty_9 ?h25_0) ?k25
      case h25_0 => exact RdV.rd hr1.1
      refine' WL.gpur (u := 71) rfl rfl (gT hg71) (Pur.bin rfl rfl ?h26_0) ?k26
      case h26_0 => exact Bin.eqS
      exact K71 _ zcR rfl
    case h23_1 =>
      intro hg71 K71
      refine WL.gskip (u := 71) rfl rfl (sT hg71) ?_
      refine WL.gskip (u := 71) rfl rfl (sT hg71) ?_
      refine WL.gskip (u := 71) rfl rfl (sT hg71) ?_
      refine WL.gskip (u := 71) rfl rfl (sT hg71) ?_
      exact K71 _ zcR
    case h23_2 => exact Wanted.plain rfl
    refine WL.pur (Pur.assign rfl) ?_
    refine WL.nil ?_
    refine WQ.thn ?_
    refine WC.ret ?_
    refine WQ.ret1 Tryz.results31 rfl [] zsL (View.le_trans hle1 (View.le_trans hle2 (View.le_trans hle3 (View.le_trans hle4 (View.le_trans hle5 (View.le_trans hle6 (View.le_trans hle7 (View.le_trans hle8 (View.le_trans hle9 hle10))))))))) ?_
    exact ⟨(boolT (by decide)).symm, rfl⟩

end Go.Proofs.YtgoooilgmabkmaaGreat
namespace Go.Proofs.YtgoooilgmabkmaaGreat
open Go Go.Sl
set_option linter.unusedVariables false
set_option linter.unusedSimpArgs false
set_option maxRecDepth 100000

theorem r11_KnowsG (σ : View) (pv : Value) (L : List EntD) (a c : Trip) (h : R11V σ pv L) (ho : OrdOk L) (ha : a.1 < L.length) (hc : c.1 < L.length) :
    TriP Tryz.prog 106 #[pv, .agg #[.int .i64 (a.1 : Int), .int .i64 (a.2.1 : Int)], .agg #[.int .i64 (c.1 : Int), .int .i64 (c.2.1 : Int)]] σ (.bool (decide ((a.1 = c.1 ∧ a.2.1 < c.2.1) ∨ seesN L a.1 c.1 = true))) := by
  refine Tri.of_body [(0, pv), (1, .agg #[.int .i64 (a.1 : Int), .int .i64 (a.2.1 : Int)]), (2, .agg #[.int .i64 (c.1 : Int), .int .i64 (c.2.1 : Int)])] Tryz.func106 rfl Tryz.ntmps106 (by simp) rfl (fun Hr => ?_)
  rw [List.nil_append]
  refine WC.seq ?_
  refine WC.region ?_
  refine WL.new (New.boxN rfl) (fun b4 => ?_)
  refine WL.new (New.boxN rfl) (fun b5 => ?_)
  refine WL.pur (Pur.assign rfl) ?_
  refine WL.nil ?_
  refine WQ.thn ?_
  refine WC.seq ?_
  refine WC.seq ?_
  refine WC.region ?_
  refine WL.pur (Pur.fieldAddr rfl fo_164_0) ?_
  refine' WL.pur (Pur.load1 rfl ty_3 ?h1_0) ?k1
  case h1_0 => first | (apply Rd.own1; exact zmE; rfl) | (apply RdV.rd; apply RdV.idx (i := 0); assumption; rfl)
  refine WL.pur (Pur.fieldAddr rfl fo_164_0) ?_
  refine' WL.pur (Pur.load1 rfl ty_3 ?h2_0) ?k2
  case h2_0 => first | (apply Rd.own1; exact zmE; rfl) | (apply RdV.rd; apply RdV.idx (i := 0); assumption; rfl)
  refine' WL.pur (Pur.bin rfl rfl ?h3_0) ?k3
  case h3_0 => first | exact Bin.eqN | exact Bin.eqI
  refine WL.nil ?_
  refine WQ.thn ?_
  first | refine WC.cond rfl (fun hc0 => ?_) (fun hc0 => ?_) | refine WC.condB rfl (fun hc0 => ?_) (fun hc0 => ?_)
  · refine WC.seq ?_
    refine WC.region ?_
    refine WL.pur (Pur.fieldAddr rfl fo_164_1) ?_
    refine' WL.pur (Pur.load1 rfl ty_3 ?h4_0) ?k4
    case h4_0 => first | (apply Rd.own1; exact zmE; rfl) | (apply RdV.rd; apply RdV.idx (i := 1); assumption; rfl) | (apply RdV.rd; apply RdV.idx (off := 0) (i := 1); assumption; rfl)
    refine WL.pur (Pur.fieldAddr rfl fo_164_1) ?_
    refine' WL.pur (Pur.load1 rfl ty_3 ?h5_0) ?k5
    case h5_0 => first | (apply Rd.own1; exact zmE; rfl) | (apply RdV.rd; apply RdV.idx (i := 1); assumption; rfl) | (apply RdV.rd; apply RdV.idx (off := 0) (i := 1); assumption; rfl)
    refine' WL.pur (Pur.bin rfl rfl ?h6_0) ?k6
    case h6_0 => first | exact Bin.gtN | exact Bin.gtI
    refine WL.pur (Pur.assign rfl) ?_
    refine WL.nil ?_
    refine WQ.thn ?_
    refine WC.ret ?_
    refine WQ.thn_ret ?_
    refine WQ.ret1 Tryz.results106 rfl [] zsL (View.le_refl _) ?_
    refine ⟨?_, rfl, rfl⟩
    exact decB ⟨fun h => .inl ⟨hc0, h⟩, fun h => h.elim (fun h => h.2) (fun hs => absurd (sees_lt ho hs).1 (by omega))⟩
  · refine WC.skip ?_
    refine WQ.thn ?_
    refine WC.seq ?_
    refine WC.region ?_
    refine WL.pur (Pur.move rfl) ?_
    refine WL.pur (Pur.fieldAddr rfl fo_164_0) ?_
    refine' WL.pur (Pur.load1 rfl ty_3 ?h7_0) ?k7
    case h7_0 => first | (apply Rd.own1; exact zmE; rfl) | (apply RdV.rd; apply RdV.idx (i := 0); assumption; rfl)
    refine WL.pur (Pur.fieldAddr rfl fo_164_0) ?_
    refine' WL.pur (Pur.load1 rfl ty_3 ?h8_0) ?k8
    case h8_0 => first | (apply Rd.own1; exact zmE; rfl) | (apply RdV.rd; apply RdV.idx (i := 0); assumption; rfl)
    refine WL.callP rfl Tryz.call115 ((r11_Sees _ _ L a.1 c.1 h ho hc ha)) ?_
    refine WL.pur (Pur.assign rfl) ?_
    refine WL.nil ?_
    refine WQ.thn ?_
    refine WC.ret ?_
    refine WQ.ret1 Tryz.results106 rfl [] zsL (View.le_refl _) ?_
    refine ⟨?_, rfl, rfl⟩
    exact decB ⟨fun h => .inr h, fun h => h.resolve_left (fun h => hc0 h.1)⟩

end Go.Proofs.YtgoooilgmabkmaaGreat
namespace Go.Proofs.YtgoooilgmabkmaaGreat
open Go Go.Sl
set_option linter.unusedVariables false
set_option linter.unusedSimpArgs false
set_option maxRecDepth 100000

theorem r11_opsOk {σ : View} {pv : Value} {L : List EntD} (h : R11V σ pv L) : ∀ i, ∀ o ∈ opsAt L i, o.ok := by
  intro i o ho
  obtain ⟨b, plv, psv, pqv, rfl, hr, hE, hS, hQ⟩ := h
  obtain ⟨ea, ec, rfl, _, _⟩ := hE.shape
  obtain ⟨b, off, _, hat⟩ := hE.rds
  unfold opsAt at ho
  split at ho
  · rename_i e he
    obtain ⟨vs, _, _, ⟨qv, ov, rfl, _, hNR⟩, _⟩ := hat i e he
    have hops := hNR.2.1
    obtain ⟨oa, oc, rfl, _, _⟩ := hops.shape
    obtain ⟨b2, off2, _, hat2⟩ := hops.rds
    obtain ⟨j, hj⟩ := List.getElem?_of_mem ho
    obtain ⟨_, _, _, ⟨_, h3⟩, _⟩ := hat2 j o hj
    exact h3
  · simp at ho

theorem r11_texts (n : Nat) :
    ∀ (l : List ByteArray) (σ : View) (lv : Value), l.length = n → Strs σ lv l → Tri Tryz.prog 119 #[lv] σ [] (fun v σ' H' => Strs σ' v (textsL l) ∧ H' = []) := by
  induction n using Nat.strongRecOn with
  | _ n ih =>
    intro l σ0 lv hn h
    have h' := h
    obtain ⟨la, lc, rfl, hlc, hlb⟩ := h.shape
    refine Tri.of_body [(0, .slice la l.length lc)] Tryz.func119 rfl Tryz.ntmps119 (by simp) rfl (fun Hr => ?_)
    rw [List.nil_append]
    refine WC.seq ?_
    refine WC.region ?_
    refine WL.pur (Pur.assign rfl) ?_
    refine WL.nil ?_
    refine WQ.thn ?_
    refine WC.seq ?_
    refine WC.seq ?_
    refine WC.region ?_
    refine WL.pur (Pur.move rfl) ?_
    refine WL.pur (Pur.len rfl isSlice_23) ?_
    refine' WL.pur (Pur.bin rfl rfl ?h1_0) ?k1
    case h1_0 => first | exact Bin.ltN (b := 2) | exact Bin.ltI | exact Bin.ltS
    refine WL.nil ?_
    refine WQ.thn ?_
    first | refine WC.cond rfl (fun hc0 => ?_) (fun hc0 => ?_) | refine WC.condB rfl (fun hc0 => ?_) (fun hc0 => ?_)
    · refine WC.seq ?_
      refine WC.region ?_
      refine WL.pur (Pur.move rfl) ?_
      refine WL.pur (Pur.assign rfl) ?_
      refine WL.nil ?_
      refine WQ.thn ?_
      refine WC.ret ?_
      refine WQ.thn_ret ?_
      refine WQ.ret1 Tryz.results119 rfl [] zsL (View.le_refl _) ?_
      exact ⟨by rw [textsL_one hc0]; exact h', rfl⟩
    · refine WC.skip ?_
      refine WQ.thn ?_
      refine WC.seq ?_
      refine WC.drawH 14 14 mixed (by kernel_rfl) rfl ?_
      refine SA.take 0 (by kernel_rfl) rfl rfl rfl (Wanted.plain rfl) zsL (by first | exact View.le_refl _ | assumption | exact View.le_trans hle1 hle2) (Pur.move rfl) ?_
      refine SA.take 1 (by kernel_rfl) rfl rfl rfl (Wanted.plain rfl) zsL (by first | exact View.le_refl _ | assumption | exact View.le_trans hle1 hle2) (Pur.move rfl) ?_
      refine SA.take 2 (by kernel_rfl) rfl rfl rfl (Wanted.plain rfl) zsL (by first | exact View.le_refl _ | assumption | exact View.le_trans hle1 hle2) (Pur.len rfl isSlice_23) ?_
      refine' SA.take 3 (by kernel_rfl) rfl rfl rfl (Wanted.plain rfl) zsL (by first | exact View.le_refl _ | assumption | exact View.le_trans hle1 hle2) (Pur.bin rfl rfl ?h2_0) ?k2
      case h2_0 => first | (refine Bin.quoN (b := 2) ?_ ?_ <;> omega)
      refine SA.take 4 (by kernel_rfl) rfl rfl rfl (Wanted.plain rfl) zsL (by first | exact View.le_refl _ | assumption | exact View.le_trans hle1 hle2) (Pur.sliceT rfl rfl sl_23 (by omega)) ?_
      refine SA.take 6 (by kernel_rfl) rfl rfl rfl (Wanted.plain rfl) zsL (by first | exact View.le_refl _ | assumption | exact View.le_trans hle1 hle2) (Pur.move rfl) ?_
      refine SA.take 7 (by kernel_rfl) rfl rfl rfl (Wanted.plain rfl) zsL (by first | exact View.le_refl _ | assumption | exact View.le_trans hle1 hle2) (Pur.move rfl) ?_
      refine SA.take 8 (by kernel_rfl) rfl rfl rfl (Wanted.plain rfl) zsL (by first | exact View.le_refl _ | assumption | exact View.le_trans hle1 hle2) (Pur.len rfl isSlice_23) ?_
      refine' SA.take 9 (by kernel_rfl) rfl rfl rfl (Wanted.plain rfl) zsL (by first | exact View.le_refl _ | assumption | exact View.le_trans hle1 hle2) (Pur.bin rfl rfl ?h3_0) ?k3
      case h3_0 => first | (refine Bin.quoN (b := 2) ?_ ?_ <;> omega)
      refine SA.take 10 (by kernel_rfl) rfl rfl rfl (Wanted.plain rfl) zsL (by first | exact View.le_refl _ | assumption | exact View.le_trans hle1 hle2) ((Pur.sliceX rfl rfl sl_23 (by omega) (by omega))) ?_
      refine SA.callR 5 (H1 := []) rfl rfl (Wanted.plain rfl) (by kernel_rfl) rfl Tryz.call119 (List.Perm.refl _) (.inr ⟨zsL, View.le_refl _⟩) (ih (l.length / 2) (by omega) (l.take (l.length / 2)) _ _ (by rw [List.length_take]; omega) (h'.take (l.length / 2) (by omega))) ?_
      rintro v17 σ1 _ ⟨hA, rfl⟩ hle1
      rw [List.nil_append]
      refine SA.callR 11 (H1 := []) rfl rfl (Wanted.plain rfl) (by kernel_rfl) rfl Tryz.call119 (List.Perm.refl _) (.inr ⟨zsL, hle1⟩) (ih (l.length - l.length / 2) (by omega) (l.drop (l.length / 2)) _ _ (by rw [List.length_drop]) ((h'.mono eStr_mono hle1).drop (l.length / 2) (by omega))) ?_
      rintro v23 σ2 _ ⟨hB, rfl⟩ hle2
      rw [List.nil_append]
      have hA2 := hA.mono eStr_mono hle2
      refine SA.take 12 (by kernel_rfl) rfl rfl rfl (Wanted.plain rfl) zsL (by first | exact View.le_refl _ | assumption | exact View.le_trans hle1 hle2) (Pur.assign rfl) ?_
      refine SA.take 13 (by kernel_rfl) rfl rfl rfl (Wanted.plain rfl) zsL (by first | exact View.le_refl _ | assumption | exact View.le_trans hle1 hle2) (Pur.assign rfl) ?_
      refine SA.done (by kernel_rfl) ?_
      refine WQ.thn ?_
      refine WC.seq ?_
      refine WC.region ?_
      refine WL.new (New.buildSlice0 sl_23) (fun b24 => ?_)
      refine WL.pur (Pur.assign rfl) ?_
      refine WL.nil ?_
      refine WQ.thn ?_
      refine WC.seq ?_
      refine WC.region ?_
      refine WL.pur (Pur.assign rfl) ?_
      refine WL.pur (Pur.assign rfl) ?_
      refine WL.nil ?_
      refine WQ.thn ?_
      refine WC.seq ?_
      refine WC.block ?_
      obtain ⟨aa, ac, rfl, hac, hab⟩ := hA2.shape
      obtain ⟨ba, bc, rfl, hbc, hbb⟩ := hB.shape
      obtain ⟨ab, aoff, hea⟩ := addr_of hA2
      obtain ⟨bb, boff, heb⟩ := addr_of hB
      have hAl : (textsL (l.take (l.length / 2))).length = l.length / 2 := by rw [textsL_len, List.length_take]; omega
      have hBl : (textsL (l.drop (l.length / 2))).length = l.length - l.length / 2 := by rw [textsL_len, List.length_drop]
      refine WC.loop (fun j m σ' H' => ∃ (i k : Nat) (out : List ByteArray) (sv : Value) (h : HList), j = (textsL (l.take (l.length / 2))).length + (textsL (l.drop (l.length / 2))).length - (i + k) ∧ i ≤ (textsL (l.take (l.length / 2))).length ∧ k ≤ (textsL (l.drop (l.length / 2))).length ∧ out.length = i + k ∧ SlO σ2 eStr 9 1 sv out h ∧ out ++ List.merge ((textsL (l.take (l.length / 2))).drop i) ((textsL (l.drop (l.length / 2))).drop k) leB = List.merge (textsL (l.take (l.length / 2))) (textsL (l.drop (l.length / 2))) leB ∧ m = [(3, .slice aa (textsL (l.take (l.length / 2))).length ac), (4, .slice ba (textsL (l.drop (l.length / 2))).length bc), (5, sv), (6, .int .i64 (i : Int)), (7, .int .i64 (k : Int))] ∧ σ' = σ2 ∧ H' = h ++ Hr) ⟨0, 0, [], _, [(b24, rowO 9 [])], rfl, by omega, by omega, rfl, row_nilS _ b24, by simp, rfl, rfl, rfl⟩ zcV zsL ?_
      rintro _ _ σ Hr ⟨i, k, out, sv, ho, rfl, hi, hk, hlen, hso, hout, rfl, rfl, rfl⟩
      refine WC.seq ?_
      refine WC.seq ?_
      refine WC.region ?_
      refine WL.pur (Pur.move rfl) ?_
      refine WL.pur (Pur.move rfl) ?_
      refine WL.pur (Pur.len rfl isSlice_23) ?_
      refine' WL.pur (Pur.bin rfl rfl ?h4_0) ?k4
      case h4_0 => first | exact Bin.ltN | exact Bin.ltI | exact Bin.ltS
      refine WL.pur (Pur.move rfl) ?_
      refine' WL.orp (u := 29) (t := 34) rfl ?h5_0 ?h5_1 ?h5_2 rfl ?k5
      case h5_0 =>
        intro hg29 K29
        refine WL.gpur (u := 29) rfl rfl (gF hg29) (Pur.move rfl) ?_
        refine WL.gpur (u := 29) rfl rfl (gF hg29) (Pur.move rfl) ?_
        refine WL.gpur (u := 29) rfl rfl (gF hg29) (Pur.len rfl isSlice_23) ?_
        refine' WL.gpur (u := 29) rfl rfl (gF hg29) (Pur.bin rfl rfl ?h6_0) ?k6
        case h6_0 => first | exact Bin.ltN | exact Bin.ltI | exact Bin.ltS
        exact K29 _ zcR rfl
      case h5_1 =>
        intro hg29 K29
        refine WL.gskip (u := 29) rfl rfl (sF hg29) ?_
        refine WL.gskip (u := 29) rfl rfl (sF hg29) ?_
        refine WL.gskip (u := 29) rfl rfl (sF hg29) ?_
        refine WL.gskip (u := 29) rfl rfl (sF hg29) ?_
        exact K29 _ zcR
      case h5_2 => exact Wanted.plain rfl
      refine WL.nil ?_
      refine WQ.thn ?_
      first | refine WC.cond rfl (fun hc1 => ?_) (fun hc1 => ?_) | refine WC.condB rfl (fun hc1 => ?_) (fun hc1 => ?_)
      · refine WC.skip ?_
        refine WQ.thn ?_
        refine WC.block ?_
        refine WC.seq ?_
        refine WC.drawH 21 21 mixed (by kernel_rfl) rfl ?_
        refine SA.take 0 (by kernel_rfl) rfl rfl rfl (Wanted.plain rfl) zsL (by first | exact View.le_refl _ | assumption | exact View.le_trans hle1 hle2) (Pur.move rfl) ?_
        refine SA.take 1 (by kernel_rfl) rfl rfl rfl (Wanted.plain rfl) zsL (by first | exact View.le_refl _ | assumption | exact View.le_trans hle1 hle2) (Pur.move rfl) ?_
        refine SA.take 2 (by kernel_rfl) rfl rfl rfl (Wanted.plain rfl) zsL (by first | exact View.le_refl _ | assumption | exact View.le_trans hle1 hle2) (Pur.len rfl isSlice_23) ?_
        refine' SA.take 3 (by kernel_rfl) rfl rfl rfl (Wanted.plain rfl) zsL (by first | exact View.le_refl _ | assumption | exact View.le_trans hle1 hle2) (Pur.bin rfl rfl ?h7_0) ?k7
        case h7_0 => first | exact Bin.eqN | exact Bin.eqI
        refine SA.take 4 (by kernel_rfl) rfl rfl rfl (Wanted.plain rfl) zsL (by first | exact View.le_refl _ | assumption | exact View.le_trans hle1 hle2) (Pur.move rfl) ?_
        refine' SA.orp 20 (u := 39) rfl ?h8_0 ?h8_1 ?h8_2 rfl zsL (View.le_refl _) ?h8_3 rfl ?k8
        case h8_0 =>
          intro hg39 K39
          refine SA.take 5 (by kernel_rfl) rfl rfl rfl (Wanted.guard (u := 39) rfl rfl rfl (gF hg39)) zsL (by first | exact View.le_refl _ | assumption | exact View.le_trans hle1 hle2) (Pur.move rfl) ?_
          refine SA.take 6 (by kernel_rfl) rfl rfl rfl (Wanted.guard (u := 39) rfl rfl rfl (gF hg39)) zsL (by first | exact View.le_refl _ | assumption | exact View.le_trans hle1 hle2) (Pur.move rfl) ?_
          refine SA.take 7 (by kernel_rfl) rfl rfl rfl (Wanted.guard (u := 39) rfl rfl rfl (gF hg39)) zsL (by first | exact View.le_refl _ | assumption | exact View.le_trans hle1 hle2) (Pur.len rfl isSlice_23) ?_
          refine' SA.take 8 (by kernel_rfl) rfl rfl rfl (Wanted.guard (u := 39) rfl rfl rfl (gF hg39)) zsL (by first | exact View.le_refl _ | assumption | exact View.le_trans hle1 hle2) (Pur.bin rfl rfl ?h9_0) ?k9
          case h9_0 => first | exact Bin.ltN | exact Bin.ltI | exact Bin.ltS
          refine SA.take 9 (by kernel_rfl) rfl rfl rfl (Wanted.guard (u := 39) rfl rfl rfl (gF hg39)) zsL (by first | exact View.le_refl _ | assumption | exact View.le_trans hle1 hle2) (Pur.move rfl) ?_
          refine' SA.andp 19 (u := 44) rfl ?h10_0 ?h10_1 ?h10_2 rfl zsL (View.le_refl _) ?h10_3 rfl ?k10
          case h10_0 =>
            intro hg44 K44
            have hra := str_rd hA2 hea hg44
            have hrb := str_rd hB heb (show k < (textsL (l.drop (l.length / 2))).length by omega)
            refine SA.take 10 (by kernel_rfl) rfl rfl rfl (Wanted.guard (u := 44) rfl rfl rfl (gT hg44)) zsL (by first | exact View.le_refl _ | assumption | exact View.le_trans hle1 hle2) (Pur.move rfl) ?_
            refine SA.take 11 (by kernel_rfl) rfl rfl rfl (Wanted.guard (u := 44) rfl rfl rfl (gT hg44)) zsL (by first | exact View.le_refl _ | assumption | exact View.le_trans hle1 hle2) (Pur.move rfl) ?_
            refine' SA.take 12 (by kernel_rfl) rfl rfl rfl (Wanted.guard (u := 44) rfl rfl rfl (gT hg44)) zsL (by first | exact View.le_refl _ | assumption | exact View.le_trans hle1 hle2) (Pur.indexAddr (eqA (hea (by omega))) rfl sl_23 ?h11_0) ?k11
            case h11_0 => omega
            refine' SA.take 13 (by kernel_rfl) rfl rfl rfl (Wanted.guard (u := 44) rfl rfl rfl (gT hg44)) zsL (by first | exact View.le_refl _ | assumption | exact View.le_trans hle1 hle2) (Pur.load1 rfl ty_9 ?h12_0) ?k12
            case h12_0 => exact RdV.rd hra.1
            refine SA.take 14 (by kernel_rfl) rfl rfl rfl (Wanted.guard (u := 44) rfl rfl rfl (gT hg44)) zsL (by first | exact View.le_refl _ | assumption | exact View.le_trans hle1 hle2) (Pur.move rfl) ?_
            refine SA.take 15 (by kernel_rfl) rfl rfl rfl (Wanted.guard (u := 44) rfl rfl rfl (gT hg44)) zsL (by first | exact View.le_refl _ | assumption | exact View.le_trans hle1 hle2) (Pur.move rfl) ?_
            refine' SA.take 16 (by kernel_rfl) rfl rfl rfl (Wanted.guard (u := 44) rfl rfl rfl (gT hg44)) zsL (by first | exact View.le_refl _ | assumption | exact View.le_trans hle1 hle2) (Pur.indexAddr (eqA (heb (by omega))) rfl sl_23 ?h13_0) ?k13
            case h13_0 => omega
            refine' SA.take 17 (by kernel_rfl) rfl rfl rfl (Wanted.guard (u := 44) rfl rfl rfl (gT hg44)) zsL (by first | exact View.le_refl _ | assumption | exact View.le_trans hle1 hle2) (Pur.load1 rfl ty_9 ?h14_0) ?k14
            case h14_0 => exact RdV.rd hrb.1
            refine' SA.take 18 (by kernel_rfl) rfl rfl rfl (Wanted.guard (u := 44) rfl rfl rfl (gT hg44)) zsL (by first | exact View.le_refl _ | assumption | exact View.le_trans hle1 hle2) (Pur.bin rfl rfl ?h15_0) ?k15
            case h15_0 => first | exact Bin.leN | exact Bin.leI | exact Bin.leS
            exact K44 _ zcR rfl
          case h10_1 =>
            intro hg44 K44
            refine SA.gskip 10 (u := 44) (by kernel_rfl) rfl rfl rfl rfl rfl rfl (sT hg44) zsL (by first | exact View.le_refl _ | assumption | exact View.le_trans hle1 hle2) ?_
            refine SA.gskip 11 (u := 44) (by kernel_rfl) rfl rfl rfl rfl rfl rfl (sT hg44) zsL (by first | exact View.le_refl _ | assumption | exact View.le_trans hle1 hle2) ?_
            refine SA.gskip 12 (u := 44) (by kernel_rfl) rfl rfl rfl rfl rfl rfl (sT hg44) zsL (by first | exact View.le_refl _ | assumption | exact View.le_trans hle1 hle2) ?_
            refine SA.gskip 13 (u := 44) (by kernel_rfl) rfl rfl rfl rfl rfl rfl (sT hg44) zsL (by first | exact View.le_refl _ | assumption | exact View.le_trans hle1 hle2) ?_
            refine SA.gskip 14 (u := 44) (by kernel_rfl) rfl rfl rfl rfl rfl rfl (sT hg44) zsL (by first | exact View.le_refl _ | assumption | exact View.le_trans hle1 hle2) ?_
            refine SA.gskip 15 (u := 44) (by kernel_rfl) rfl rfl rfl rfl rfl rfl (sT hg44) zsL (by first | exact View.le_refl _ | assumption | exact View.le_trans hle1 hle2) ?_
            refine SA.gskip 16 (u := 44) (by kernel_rfl) rfl rfl rfl rfl rfl rfl (sT hg44) zsL (by first | exact View.le_refl _ | assumption | exact View.le_trans hle1 hle2) ?_
            refine SA.gskip 17 (u := 44) (by kernel_rfl) rfl rfl rfl rfl rfl rfl (sT hg44) zsL (by first | exact View.le_refl _ | assumption | exact View.le_trans hle1 hle2) ?_
            refine SA.gskip 18 (u := 44) (by kernel_rfl) rfl rfl rfl rfl rfl rfl (sT hg44) zsL (by first | exact View.le_refl _ | assumption | exact View.le_trans hle1 hle2) ?_
            exact K44 _ zcR
          case h10_2 => kernel_rfl
          case h10_3 => exact Wanted.guard (u := 39) rfl rfl rfl (gF hg39)
          exact K39 _ zcR rfl
        case h8_1 =>
          intro hg39 K39
          refine SA.gskip 5 (u := 39) (by kernel_rfl) rfl rfl rfl rfl rfl rfl (sF hg39) zsL (by first | exact View.le_refl _ | assumption | exact View.le_trans hle1 hle2) ?_
          refine SA.gskip 6 (u := 39) (by kernel_rfl) rfl rfl rfl rfl rfl rfl (sF hg39) zsL (by first | exact View.le_refl _ | assumption | exact View.le_trans hle1 hle2) ?_
          refine SA.gskip 7 (u := 39) (by kernel_rfl) rfl rfl rfl rfl rfl rfl (sF hg39) zsL (by first | exact View.le_refl _ | assumption | exact View.le_trans hle1 hle2) ?_
          refine SA.gskip 8 (u := 39) (by kernel_rfl) rfl rfl rfl rfl rfl rfl (sF hg39) zsL (by first | exact View.le_refl _ | assumption | exact View.le_trans hle1 hle2) ?_
          refine SA.gskip 9 (u := 39) (by kernel_rfl) rfl rfl rfl rfl rfl rfl (sF hg39) zsL (by first | exact View.le_refl _ | assumption | exact View.le_trans hle1 hle2) ?_
          refine SA.gskipU 10 (u := 44) (by kernel_rfl) rfl rfl rfl rfl rfl rfl zsL (by first | exact View.le_refl _ | assumption | exact View.le_trans hle1 hle2) ?_
          refine SA.gskipU 11 (u := 44) (by kernel_rfl) rfl rfl rfl rfl rfl rfl zsL (by first | exact View.le_refl _ | assumption | exact View.le_trans hle1 hle2) ?_
          refine SA.gskipU 12 (u := 44) (by kernel_rfl) rfl rfl rfl rfl rfl rfl zsL (by first | exact View.le_refl _ | assumption | exact View.le_trans hle1 hle2) ?_
          refine SA.gskipU 13 (u := 44) (by kernel_rfl) rfl rfl rfl rfl rfl rfl zsL (by first | exact View.le_refl _ | assumption | exact View.le_trans hle1 hle2) ?_
          refine SA.gskipU 14 (u := 44) (by kernel_rfl) rfl rfl rfl rfl rfl rfl zsL (by first | exact View.le_refl _ | assumption | exact View.le_trans hle1 hle2) ?_
          refine SA.gskipU 15 (u := 44) (by kernel_rfl) rfl rfl rfl rfl rfl rfl zsL (by first | exact View.le_refl _ | assumption | exact View.le_trans hle1 hle2) ?_
          refine SA.gskipU 16 (u := 44) (by kernel_rfl) rfl rfl rfl rfl rfl rfl zsL (by first | exact View.le_refl _ | assumption | exact View.le_trans hle1 hle2) ?_
          refine SA.gskipU 17 (u := 44) (by kernel_rfl) rfl rfl rfl rfl rfl rfl zsL (by first | exact View.le_refl _ | assumption | exact View.le_trans hle1 hle2) ?_
          refine SA.gskipU 18 (u := 44) (by kernel_rfl) rfl rfl rfl rfl rfl rfl zsL (by first | exact View.le_refl _ | assumption | exact View.le_trans hle1 hle2) ?_
          refine SA.gskip 19 (u := 39) (by kernel_rfl) rfl rfl rfl rfl rfl rfl (sF hg39) zsL (by first | exact View.le_refl _ | assumption | exact View.le_trans hle1 hle2) ?_
          exact K39 _ zcR
        case h8_2 => kernel_rfl
        case h8_3 => exact Wanted.plain rfl
        refine SA.done (by kernel_rfl) ?_
        refine WQ.thn ?_
        first | refine WC.cond rfl (fun hc2 => ?_) (fun hc2 => ?_) | refine WC.condB rfl (fun hc2 => ?_) (fun hc2 => ?_)
        · have hx' : i < (textsL (l.take (l.length / 2))).length := by omega
          have hra2 := str_rd hA2 hea hx'
          have hok2 := hra2.2
          have hmerge : List.merge ((textsL (l.take (l.length / 2))).drop i) ((textsL (l.drop (l.length / 2))).drop k) leB = sD (textsL (l.take (l.length / 2))) i :: List.merge ((textsL (l.take (l.length / 2))).drop (i + 1)) ((textsL (l.drop (l.length / 2))).drop k) leB := by
            by_cases hkb : k < (textsL (l.drop (l.length / 2))).length
            · rw [mergeS_drop hx' hkb, if_pos]
              have := hc2.resolve_left (by omega)
              simp only [leB, decide_eq_true_eq]
              exact this.2
            · exact mergeS_left hx' (by omega)
          refine WC.seq ?_
          refine WC.region ?_
          refine WL.pur (Pur.move rfl) ?_
          refine WL.pur (Pur.move rfl) ?_
          refine WL.pur (Pur.move rfl) ?_
          refine' WL.pur (Pur.indexAddr (eqA (hea (by omega))) rfl sl_23 ?h16_0) ?k16
          case h16_0 => omega
          refine' WL.pur (Pur.load1 rfl ty_9 ?h17_0) ?k17
          case h17_0 => exact RdV.rd hra2.1
          refine WL.new (New.buildSliceS (xs := [.tmp 60]) sl_23 zc_9 rfl rfl rfl (by rfl) (by rfl)) (fun b61 => ?_)
          refine' WL.any (Any.push (H1 := [(b61, _)]) (H2 := Hr) sl_23 zc_9 rfl by_9 rfl rfl hso ?h18_0 ?h18_1 ?h18_2 ?h18_3 rfl (by omega) (by omega)) ?k18
          case h18_0 => apply Rd.own_sub; exact zmE; exact Sub.refl _
          case h18_1 => first | rfl | assumption
          case h18_2 => first | rfl | assumption
          case h18_3 => exact ⟨rfl, hok2⟩
          rintro v62 σ _ ⟨ho', hso', rfl, rfl⟩ _
          refine WL.pur (Pur.assign rfl) ?_
          refine WL.nil ?_
          refine WQ.thn ?_
          refine WC.region ?_
          refine WL.pur (Pur.move rfl) ?_
          refine' WL.pur (Pur.bin rfl rfl ?h19_0) ?k19
          case h19_0 => first | (refine Bin.addN (b := 1) ?_; omega) | (refine Bin.addI ?_; omega)
          refine WL.pur (Pur.assign rfl) ?_
          refine WL.nil ?_
          refine WQ.blk ?_
          refine WQ.back _ ⟨i + 1, k, out ++ [sD (textsL (l.take (l.length / 2))) i], _, ho', rfl, by omega, by omega, by simp; omega, hso', by rw [List.append_assoc, List.singleton_append, ← hout, hmerge], rfl, rfl, rfl⟩ (by omega) zcV zsL
        · have hy' : k < (textsL (l.drop (l.length / 2))).length := by omega
          have hrb2 := str_rd hB heb hy'
          have hok2 := hrb2.2
          have hmerge : List.merge ((textsL (l.take (l.length / 2))).drop i) ((textsL (l.drop (l.length / 2))).drop k) leB = sD (textsL (l.drop (l.length / 2))) k :: List.merge ((textsL (l.take (l.length / 2))).drop i) ((textsL (l.drop (l.length / 2))).drop (k + 1)) leB := by
            by_cases hia : i < (textsL (l.take (l.length / 2))).length
            · rw [mergeS_drop hia hy', if_neg]
              intro hle
              simp only [leB, decide_eq_true_eq] at hle
              exact hc2 (.inr ⟨hia, hle⟩)
            · exact mergeS_right hy' (by omega)
          refine WC.seq ?_
          refine WC.region ?_
          refine WL.pur (Pur.move rfl) ?_
          refine WL.pur (Pur.move rfl) ?_
          refine WL.pur (Pur.move rfl) ?_
          refine' WL.pur (Pur.indexAddr (eqA (heb (by omega))) rfl sl_23 ?h20_0) ?k20
          case h20_0 => omega
          refine' WL.pur (Pur.load1 rfl ty_9 ?h21_0) ?k21
          case h21_0 => exact RdV.rd hrb2.1
          refine WL.new (New.buildSliceS (xs := [.tmp 69]) sl_23 zc_9 rfl rfl rfl (by rfl) (by rfl)) (fun b70 => ?_)
          refine' WL.any (Any.push (H1 := [(b70, _)]) (H2 := Hr) sl_23 zc_9 rfl by_9 rfl rfl hso ?h22_0 ?h22_1 ?h22_2 ?h22_3 rfl (by omega) (by omega)) ?k22
          case h22_0 => apply Rd.own_sub; exact zmE; exact Sub.refl _
          case h22_1 => first | rfl | assumption
          case h22_2 => first | rfl | assumption
          case h22_3 => exact ⟨rfl, hok2⟩
          rintro v71 σ _ ⟨ho', hso', rfl, rfl⟩ _
          refine WL.pur (Pur.assign rfl) ?_
          refine WL.nil ?_
          refine WQ.thn ?_
          refine WC.region ?_
          refine WL.pur (Pur.move rfl) ?_
          refine' WL.pur (Pur.bin rfl rfl ?h23_0) ?k23
          case h23_0 => first | (refine Bin.addN (b := 1) ?_; omega) | (refine Bin.addI ?_; omega)
          refine WL.pur (Pur.assign rfl) ?_
          refine WL.nil ?_
          refine WQ.blk ?_
          refine WQ.back _ ⟨i, k + 1, out ++ [sD (textsL (l.drop (l.length / 2))) k], _, ho', rfl, by omega, by omega, by simp; omega, hso', by rw [List.append_assoc, List.singleton_append, ← hout, hmerge], rfl, rfl, rfl⟩ (by omega) zcV zsL
      · refine WC.exit ?_
        refine WQ.thn_exit ?_
        refine WQ.back_exit ?_
        refine WQ.blk_here ?_
        refine WQ.thn ?_
        refine WC.seq ?_
        refine WC.region ?_
        refine WL.pur (Pur.move rfl) ?_
        refine WL.pur (Pur.assign rfl) ?_
        refine WL.nil ?_
        refine WQ.thn ?_
        refine WC.ret ?_
        have h0 : List.merge ((textsL (l.take (l.length / 2))).drop i) ((textsL (l.drop (l.length / 2))).drop k) leB = [] := by rw [List.drop_eq_nil_of_le (by omega), List.drop_eq_nil_of_le (by omega)]; simp
        rw [h0, List.append_nil] at hout
        refine WQ.giveS (byt := 16) (H1 := []) (H2 := Hr) eStr_mono hso (by omega) rfl (fun σ3 hle3 hsl3 => ?_)
        rw [List.nil_append]
        refine WQ.ret1 Tryz.results119 rfl [] zsL (View.le_trans hle1 (View.le_trans hle2 hle3)) ?_
        exact ⟨by rw [textsL_more hc0, ← hout]; exact hsl3, rfl⟩

theorem r11_Keys (σ : View) (pv : Value) (L : List EntD) (kl kh : Int) (h : R11V σ pv L) (ho : OrdOk L) :
    Tri Tryz.prog 47 #[pv, .int .i64 kl, .int .i64 kh] σ [] (fun v σ' H' => ∃ h, SlO σ' eStr 9 1 v (keysR L (isKind kl kh)) h ∧ H' = h) := by
  obtain ⟨b, plv, psv, pqv, rfl, hr, hE, hS, hQ⟩ := h
  obtain ⟨pla, plc, rfl, hplc, hplb⟩ := hE.shape
  obtain ⟨plb, ploff, hel⟩ := addr_of hE
  have hmost := ho.most
  refine Tri.of_body [(0, .pointer (some ⟨b, 0, none⟩)), (1, .int .i64 kl), (2, .int .i64 kh)] Tryz.func47 rfl Tryz.ntmps47 (by simp) rfl (fun Hr => ?_)
  rw [List.nil_append]
  refine WC.seq ?_
  refine WC.region ?_
  refine WL.pur (Pur.assign rfl) ?_
  refine WL.nil ?_
  refine WQ.thn ?_
  refine WC.seq ?_
  refine WC.region ?_
  refine WL.new (New.buildSlice0 sl_23) (fun b13 => ?_)
  refine WL.pur (Pur.assign rfl) ?_
  refine WL.nil ?_
  refine WQ.thn ?_
  refine WC.seq ?_
  refine WC.seq ?_
  refine WC.region ?_
  refine WL.pur (Pur.assign rfl) ?_
  refine WL.nil ?_
  refine WQ.thn ?_
  refine WC.block ?_
  refine WC.loop (fun j m σ' H' => ∃ (i : Nat) (sv : Value) (hl : HList), j = L.length - i ∧ i ≤ L.length ∧ SlO σ eStr 9 1 sv (keysOf (opsN L (isKind kl kh) i)) hl ∧ m = [(0, .pointer (some ⟨b, 0, none⟩)), (1, .int .i64 kl), (2, .int .i64 kh), (7, sv), (8, .int .i64 (i : Int))] ∧ σ' = σ ∧ H' = hl ++ Hr) ⟨0, _, [(b13, rowO 9 [])], rfl, by omega, row_nilS _ b13, rfl, rfl, rfl⟩ zcV zsL ?_
  rintro _ _ σ Hr ⟨i, sv, hl, rfl, hi, hso, rfl, rfl, rfl⟩
  refine WC.seq ?_
  refine WC.seq ?_
  refine WC.region ?_
  refine WL.pur (Pur.move rfl) ?_
  refine WL.pur (Pur.move rfl) ?_
  refine WL.pur (Pur.nilCheck rfl) ?_
  refine WL.pur (Pur.fieldAddr rfl fo_74_0) ?_
  refine' WL.pur (Pur.load1 rfl ty_22 ?h1_0) ?k1
  case h1_0 => first | (apply Rd.own1; exact zmE; rfl) | (apply RdV.rd; apply RdV.idx (i := 0); assumption; rfl)
  refine WL.pur (Pur.len rfl isSlice_22) ?_
  refine' WL.pur (Pur.bin rfl rfl ?h2_0) ?k2
  case h2_0 => first | exact Bin.ltN | exact Bin.ltI | exact Bin.ltS
  refine WL.nil ?_
  refine WQ.thn ?_
  first | refine WC.cond rfl (fun hc0 => ?_) (fun hc0 => ?_) | refine WC.condB rfl (fun hc0 => ?_) (fun hc0 => ?_)
  · obtain ⟨e, he⟩ : ∃ e, L[i]? = some e := ⟨_, List.getElem?_eq_getElem (by omega)⟩
    obtain ⟨qv, ov, hrd, heH, hNR⟩ := ent_rd hE hel he
    have hops := hNR.2.1
    obtain ⟨pa, pc, rfl, hpc, hpb⟩ := hNR.1.shape
    obtain ⟨oa, oc, rfl, hoc, hob⟩ := hops.shape
    obtain ⟨ob, ooff, heo, hoat⟩ := hops.rds
    have hop := opsAt_of he
    have hol : e.node.ops.length ≤ 1024 := by rw [← hop]; exact opsAt_len ho i
    refine WC.skip ?_
    refine WQ.thn ?_
    refine WC.seq ?_
    refine WC.block ?_
    refine WC.seq ?_
    refine WC.region ?_
    refine WL.pur (Pur.assign rfl) ?_
    refine WL.nil ?_
    refine WQ.thn ?_
    refine WC.block ?_
    refine WC.loop (fun j m σ' H' => ∃ (q : Nat) (sv2 : Value) (hl2 : HList), j = e.node.ops.length - q ∧ q ≤ e.node.ops.length ∧ SlO σ eStr 9 1 sv2 (keysOf (opsN L (isKind kl kh) i ++ pickOps i (isKind kl kh) (e.node.ops.take q))) hl2 ∧ m = [(0, .pointer (some ⟨b, 0, none⟩)), (1, .int .i64 kl), (2, .int .i64 kh), (7, sv2), (8, .int .i64 (i : Int)), (9, .int .i64 (q : Int))] ∧ σ' = σ ∧ H' = hl2 ++ Hr) ⟨0, sv, hl, rfl, by omega, by simpa [pickOps] using hso, rfl, rfl, rfl⟩ zcV zsL ?_
    rintro _ _ σ Hr ⟨q, sv2, hl2, rfl, hq, hso2, rfl, rfl, rfl⟩
    refine WC.seq ?_
    refine WC.seq ?_
    refine WC.region ?_
    refine WL.pur (Pur.move rfl) ?_
    refine WL.pur (Pur.move rfl) ?_
    refine WL.pur (Pur.nilCheck rfl) ?_
    refine WL.pur (Pur.fieldAddr rfl fo_74_0) ?_
    refine' WL.pur (Pur.load1 rfl ty_22 ?h3_0) ?k3
    case h3_0 => first | (apply Rd.own1; exact zmE; rfl) | (apply RdV.rd; apply RdV.idx (i := 0); assumption; rfl)
    refine WL.pur (Pur.move rfl) ?_
    refine' WL.pur (Pur.indexAddr (eqA (hel (by omega))) rfl sl_22 ?h4_0) ?k4
    case h4_0 => omega
    refine WL.pur (Pur.fieldAddr rfl fo_45_1) ?_
    refine WL.pur (Pur.fieldAddr rfl fo_43_3) ?_
    refine' WL.pur (Pur.load1 rfl ty_40 ?h5_0) ?k5
    case h5_0 => first | (apply Rd.own1; exact zmE; rfl) | (apply RdV.rd; apply RdV.idx (i := 35); assumption; rfl) | (apply RdV.rd; apply RdV.idx (off := 0) (i := 35); assumption; rfl)
    refine WL.pur (Pur.len rfl isSlice_40) ?_
    refine' WL.pur (Pur.bin rfl rfl ?h6_0) ?k6
    case h6_0 => first | exact Bin.ltN | exact Bin.ltI | exact Bin.ltS
    refine WL.nil ?_
    refine WQ.thn ?_
    first | refine WC.cond rfl (fun hc1 => ?_) (fun hc1 => ?_) | refine WC.condB rfl (fun hc1 => ?_) (fun hc1 => ?_)
    · obtain ⟨o, hoq⟩ : ∃ o, e.node.ops[q]? = some o := ⟨_, List.getElem?_eq_getElem (by omega)⟩
      obtain ⟨vs, _, _, ⟨rfl, hook⟩, hord⟩ := hoat q o hoq
      have hkok : StrOk o.key := hook.2.1
      have htl : (keysOf (opsN L (isKind kl kh) i ++ pickOps i (isKind kl kh) (e.node.ops.take q))).length ≤ i * 1024 + 1024 := by
        have h1 := opsN_len ho (isKind kl kh) i
        have h2 : (pickOps i (isKind kl kh) (e.node.ops.take q)).length ≤ 1024 := by
          unfold pickOps; rw [List.length_map]
          exact Nat.le_trans (List.length_filter_le _ _) (by rw [List.length_take]; omega)
        unfold keysOf; rw [List.length_map, List.length_append]; omega
      refine WC.skip ?_
      refine WQ.thn ?_
      refine WC.seq ?_
      refine WC.block ?_
      refine WC.seq ?_
      refine WC.region ?_
      refine WL.pur (Pur.move rfl) ?_
      refine WL.pur (Pur.nilCheck rfl) ?_
      refine WL.pur (Pur.fieldAddr rfl fo_74_0) ?_
      refine' WL.pur (Pur.load1 rfl ty_22 ?h7_0) ?k7
      case h7_0 => first | (apply Rd.own1; exact zmE; rfl) | (apply RdV.rd; apply RdV.idx (i := 0); assumption; rfl)
      refine WL.pur (Pur.move rfl) ?_
      refine' WL.pur (Pur.indexAddr (eqA (hel (by omega))) rfl sl_22 ?h8_0) ?k8
      case h8_0 => omega
      refine WL.pur (Pur.fieldAddr rfl fo_45_1) ?_
      refine WL.pur (Pur.fieldAddr rfl fo_43_3) ?_
      refine' WL.pur (Pur.load1 rfl ty_40 ?h9_0) ?k9
      case h9_0 => first | (apply Rd.own1; exact zmE; rfl) | (apply RdV.rd; apply RdV.idx (i := 35); assumption; rfl) | (apply RdV.rd; apply RdV.idx (off := 0) (i := 35); assumption; rfl)
      refine WL.pur (Pur.move rfl) ?_
      refine' WL.pur (Pur.indexAddr (eqA (heo (by omega))) rfl sl_40 ?h10_0) ?k10
      case h10_0 => omega
      refine' WL.pur (Pur.loadN rfl ty_51 ?h11_0 ?h11_1) ?k11
      case h11_0 => exact RdV.rd hord
      case h11_1 => first | rfl | assumption
      refine WL.new (New.alloc zc_51) (fun b10 => ?_)
      refine' WL.run0 (Run.storeAll rfl rfl ty_51 ?h12_0 (by first | rfl | assumption) ?h12_1 (by first | rfl | assumption)) ?k12
      case h12_0 => repeat (first | exact Part.one | exact Part.here | apply Part.cons | apply Part.app)
      case h12_1 => first | rfl | assumption
      refine WL.nil ?_
      refine WQ.thn ?_
      refine WC.seq ?_
      refine WC.region ?_
      refine WL.pur (Pur.fieldAddr rfl fo_51_0) ?_
      refine' WL.pur (Pur.load1 rfl ty_3 ?h13_0) ?k13
      case h13_0 => first | (apply Rd.own1; exact zmE; rfl) | (apply RdV.rd; apply RdV.idx (i := 0); assumption; rfl)
      refine WL.pur (Pur.move rfl) ?_
      refine' WL.pur (Pur.bin rfl rfl ?h14_0) ?k14
      case h14_0 => first | exact Bin.geN | exact Bin.geI
      refine WL.pur (Pur.move rfl) ?_
      refine' WL.andp (u := 53) (t := 58) rfl ?h15_0 ?h15_1 ?h15_2 rfl ?k15
      case h15_0 =>
        intro hg53 K53
        refine WL.gpur (u := 53) rfl rfl (gT hg53) (Pur.fieldAddr rfl fo_51_0) ?_
        refine' WL.gpur (u := 53) rfl rfl (gT hg53) (Pur.load1 rfl ty_3 ?h16_0) ?k16
        case h16_0 => first | (apply Rd.own1; exact zmE; rfl) | (apply RdV.rd; apply RdV.idx (i := 0); assumption; rfl)
        refine WL.gpur (u := 53) rfl rfl (gT hg53) (Pur.move rfl) ?_
        refine' WL.gpur (u := 53) rfl rfl (gT hg53) (Pur.bin rfl rfl ?h17_0) ?k17
        case h17_0 => first | exact Bin.leN | exact Bin.leI | exact Bin.leS
        exact K53 _ zcR rfl
      case h15_1 =>
        intro hg53 K53
        refine WL.gskip (u := 53) rfl rfl (sT hg53) ?_
        refine WL.gskip (u := 53) rfl rfl (sT hg53) ?_
        refine WL.gskip (u := 53) rfl rfl (sT hg53) ?_
        refine WL.gskip (u := 53) rfl rfl (sT hg53) ?_
        exact K53 _ zcR
      case h15_2 => exact Wanted.plain rfl
      refine WL.nil ?_
      refine WQ.thn ?_
      first | refine WC.cond rfl (fun hc2 => ?_) (fun hc2 => ?_) | refine WC.condB rfl (fun hc2 => ?_) (fun hc2 => ?_)
      · have hreg : isKind kl kh o = true := by simp only [isKind, decide_eq_true_eq]; exact hc2
        refine WC.region ?_
        refine WL.pur (Pur.move rfl) ?_
        refine WL.pur (Pur.fieldAddr rfl fo_51_1) ?_
        refine' WL.pur (Pur.load1 rfl ty_9 ?h18_0) ?k18
        case h18_0 => first | (apply Rd.own1; exact zmE; rfl) | (apply RdV.rd; apply RdV.idx (i := 1); assumption; rfl) | (apply RdV.rd; apply RdV.idx (off := 0) (i := 1); assumption; rfl)
        refine WL.new (New.buildSliceS (xs := [.tmp 61]) sl_23 zc_9 rfl rfl rfl (by rfl) (by rfl)) (fun b62 => ?_)
        refine' WL.any (Any.push (H1 := [(b62, _), (b10, _)]) (H2 := Hr) sl_23 zc_9 rfl by_9 rfl rfl hso2 ?h19_0 ?h19_1 ?h19_2 ?h19_3 rfl (by omega) (by omega)) ?k19
        case h19_0 => apply Rd.own_sub; exact zmE; exact Sub.refl _
        case h19_1 => first | rfl | assumption
        case h19_2 => first | rfl | assumption
        case h19_3 => exact ⟨rfl, hkok⟩
        rintro v63 σ _ ⟨hl3, hso3, rfl, rfl⟩ _
        refine WL.pur (Pur.assign rfl) ?_
        refine WL.nil ?_
        refine WQ.blk ?_
        refine WQ.thn ?_
        refine WC.region ?_
        refine WL.pur (Pur.move rfl) ?_
        refine' WL.pur (Pur.bin rfl rfl ?h20_0) ?k20
        case h20_0 => first | (refine Bin.addN (b := 1) ?_; omega) | (refine Bin.addI ?_; omega)
        refine WL.pur (Pur.assign rfl) ?_
        refine WL.nil ?_
        refine WQ.back _ ⟨q + 1, _, _, rfl, by omega, by rw [pickOps_step hoq, if_pos hreg, ← List.append_assoc, keysOf_app]; exact hso3, rfl, rfl, rfl⟩ (by omega) zcV zsL
      · have hreg : ¬ isKind kl kh o = true := by simp only [isKind, decide_eq_true_eq]; exact hc2
        refine WC.skip ?_
        refine WQ.blk ?_
        refine WQ.thn ?_
        refine WC.region ?_
        refine WL.pur (Pur.move rfl) ?_
        refine' WL.pur (Pur.bin rfl rfl ?h21_0) ?k21
        case h21_0 => first | (refine Bin.addN (b := 1) ?_; omega) | (refine Bin.addI ?_; omega)
        refine WL.pur (Pur.assign rfl) ?_
        refine WL.nil ?_
        refine WQ.back _ ⟨q + 1, sv2, hl2, rfl, by omega, by rw [pickOps_step hoq, if_neg hreg, List.append_nil]; exact hso2, rfl, rfl, rfl⟩ (by omega) zcV zsL
    · refine WC.exit ?_
      refine WQ.thn_exit ?_
      refine WQ.back_exit ?_
      refine WQ.blk_here ?_
      refine WQ.blk ?_
      refine WQ.thn ?_
      refine WC.region ?_
      refine WL.pur (Pur.move rfl) ?_
      refine' WL.pur (Pur.bin rfl rfl ?h22_0) ?k22
      case h22_0 => first | (refine Bin.addN (b := 1) ?_; omega) | (refine Bin.addI ?_; omega)
      refine WL.pur (Pur.assign rfl) ?_
      refine WL.nil ?_
      refine WQ.back _ ⟨i + 1, sv2, hl2, rfl, by omega, by rw [opsN_succ, hop]; rw [List.take_of_length_le (show e.node.ops.length ≤ q by omega)] at hso2; exact hso2, rfl, rfl, rfl⟩ (by omega) zcV zsL
  · have hil : i = L.length := by omega
    subst hil
    have hkl := opsN_len ho (isKind kl kh) L.length
    have hkl2 : (keysOf (opsN L (isKind kl kh) L.length)).length ≤ L.length * 1024 := by unfold keysOf; rw [List.length_map]; exact hkl
    refine WC.giveS (byt := 16) (H1 := []) (H2 := Hr) eStr_mono hso (by omega) rfl (fun σ1 hle1 hsl1 => ?_)
    rw [List.nil_append]
    refine WC.exit ?_
    refine WQ.thn_exit ?_
    refine WQ.back_exit ?_
    refine WQ.blk_here ?_
    refine WQ.thn ?_
    refine WC.seq ?_
    refine WC.region ?_
    refine WL.pur (Pur.move rfl) ?_
    refine WL.call (H0 := []) (Hr := Hr) rfl Tryz.call119 (List.Perm.refl _) (r11_texts _ (keysOf (opsN L (isKind kl kh) L.length)) _ _ rfl hsl1) ?_
    rintro v65 σ2 _ ⟨hT, rfl⟩ hle2
    rw [List.nil_append]
    obtain ⟨ta, tc, rfl, htc, htb⟩ := hT.shape
    obtain ⟨tb, toff, het⟩ := addr_of hT
    refine WL.pur (Pur.assign rfl) ?_
    refine WL.nil ?_
    refine WQ.thn ?_
    refine WC.seq ?_
    refine WC.region ?_
    refine WL.new (New.buildSlice0 sl_23) (fun b66 => ?_)
    refine WL.pur (Pur.assign rfl) ?_
    refine WL.nil ?_
    refine WQ.thn ?_
    refine WC.seq ?_
    refine WC.seq ?_
    refine WC.region ?_
    refine WL.pur (Pur.assign rfl) ?_
    refine WL.nil ?_
    refine WQ.thn ?_
    refine WC.block ?_
    refine WC.loop (fun j m σ' H' => ∃ (i : Nat) (sv : Value) (hl : HList), j = (textsL (keysOf (opsN L (isKind kl kh) L.length))).length - i ∧ i ≤ (textsL (keysOf (opsN L (isKind kl kh) L.length))).length ∧ SlO σ2 eStr 9 1 sv (dedup ((textsL (keysOf (opsN L (isKind kl kh) L.length))).take i)) hl ∧ m = [(7, .slice ta (textsL (keysOf (opsN L (isKind kl kh) L.length))).length tc), (11, sv), (12, .int .i64 (i : Int))] ∧ σ' = σ2 ∧ H' = hl ++ Hr) ⟨0, _, [(b66, rowO 9 [])], rfl, by omega, by rw [List.take_zero]; exact row_nilS _ b66, rfl, rfl, rfl⟩ zcV zsL ?_
    rintro _ _ σ Hr ⟨i, sv, hl, rfl, hi, hso, rfl, rfl, rfl⟩
    refine WC.seq ?_
    refine WC.seq ?_
    refine WC.region ?_
    refine WL.pur (Pur.move rfl) ?_
    refine WL.pur (Pur.move rfl) ?_
    refine WL.pur (Pur.len rfl isSlice_23) ?_
    refine' WL.pur (Pur.bin rfl rfl ?h23_0) ?k23
    case h23_0 => first | exact Bin.ltN | exact Bin.ltI | exact Bin.ltS
    refine WL.nil ?_
    refine WQ.thn ?_
    first | refine WC.cond rfl (fun hc3 => ?_) (fun hc3 => ?_) | refine WC.condB rfl (fun hc3 => ?_) (fun hc3 => ?_)
    · have hrs := str_rd hT het hc3
      have hok3 := hrs.2
      have hdl := dedup_len ((textsL (keysOf (opsN L (isKind kl kh) L.length))).take i)
      rw [List.length_take] at hdl
      have htxl := textsL_len (keysOf (opsN L (isKind kl kh) L.length))
      refine WC.skip ?_
      refine WQ.thn ?_
      refine WC.seq ?_
      refine WC.block ?_
      refine WC.seq ?_
      refine WC.drawH 14 14 mixed (by kernel_rfl) rfl ?_
      refine SA.take 0 (by kernel_rfl) rfl rfl rfl (Wanted.plain rfl) zsL (View.le_refl _) (Pur.move rfl) ?_
      refine' SA.take 1 (by kernel_rfl) rfl rfl rfl (Wanted.plain rfl) zsL (View.le_refl _) (Pur.bin rfl rfl ?h24_0) ?k24
      case h24_0 => first | exact Bin.eqN (b := 0) | exact Bin.eqI
      refine SA.take 2 (by kernel_rfl) rfl rfl rfl (Wanted.plain rfl) zsL (View.le_refl _) (Pur.move rfl) ?_
      refine' SA.orp 13 (u := 75) rfl ?h25_0 ?h25_1 ?h25_2 rfl zsL (View.le_refl _) ?h25_3 rfl ?k25
      case h25_0 =>
        intro hg75 K75
        have hrs1 := str_rd hT het (show i - 1 < (textsL (keysOf (opsN L (isKind kl kh) L.length))).length by omega)
        refine SA.take 3 (by kernel_rfl) rfl rfl rfl (Wanted.guard (u := 75) rfl rfl rfl (gF hg75)) zsL (View.le_refl _) (Pur.move rfl) ?_
        refine SA.take 4 (by kernel_rfl) rfl rfl rfl (Wanted.guard (u := 75) rfl rfl rfl (gF hg75)) zsL (View.le_refl _) (Pur.move rfl) ?_
        refine' SA.take 5 (by kernel_rfl) rfl rfl rfl (Wanted.guard (u := 75) rfl rfl rfl (gF hg75)) zsL (View.le_refl _) (Pur.indexAddr (eqA (het (by omega))) rfl sl_23 ?h26_0) ?k26
        case h26_0 => omega
        refine' SA.take 6 (by kernel_rfl) rfl rfl rfl (Wanted.guard (u := 75) rfl rfl rfl (gF hg75)) zsL (View.le_refl _) (Pur.load1 rfl ty_9 ?h27_0) ?k27
        case h27_0 => exact RdV.rd hrs.1
        refine SA.take 7 (by kernel_rfl) rfl rfl rfl (Wanted.guard (u := 75) rfl rfl rfl (gF hg75)) zsL (View.le_refl _) (Pur.move rfl) ?_
        refine SA.take 8 (by kernel_rfl) rfl rfl rfl (Wanted.guard (u := 75) rfl rfl rfl (gF hg75)) zsL (View.le_refl _) (Pur.move rfl) ?_
        refine' SA.take 9 (by kernel_rfl) rfl rfl rfl (Wanted.guard (u := 75) rfl rfl rfl (gF hg75)) zsL (View.le_refl _) (Pur.bin rfl rfl ?h28_0) ?k28
        case h28_0 => exact Bin.subN (a := i) (b := 1) (by omega) (by omega)
        refine' SA.take 10 (by kernel_rfl) rfl rfl rfl (Wanted.guard (u := 75) rfl rfl rfl (gF hg75)) zsL (View.le_refl _) (Pur.indexAddr (eqA (het (by omega))) rfl sl_23 ?h29_0) ?k29
        case h29_0 => omega
        refine' SA.take 11 (by kernel_rfl) rfl rfl rfl (Wanted.guard (u := 75) rfl rfl rfl (gF hg75)) zsL (View.le_refl _) (Pur.load1 rfl ty_9 ?h30_0) ?k30
        case h30_0 => exact RdV.rd hrs1.1
        refine' SA.take 12 (by kernel_rfl) rfl rfl rfl (Wanted.guard (u := 75) rfl rfl rfl (gF hg75)) zsL (View.le_refl _) (Pur.bin rfl rfl ?h31_0) ?k31
        case h31_0 => exact Bin.neS
        exact K75 _ zcR rfl
      case h25_1 =>
        intro hg75 K75
        refine SA.gskip 3 (u := 75) (by kernel_rfl) rfl rfl rfl rfl rfl rfl (sF hg75) zsL (View.le_refl _) ?_
        refine SA.gskip 4 (u := 75) (by kernel_rfl) rfl rfl rfl rfl rfl rfl (sF hg75) zsL (View.le_refl _) ?_
        refine SA.gskip 5 (u := 75) (by kernel_rfl) rfl rfl rfl rfl rfl rfl (sF hg75) zsL (View.le_refl _) ?_
        refine SA.gskip 6 (u := 75) (by kernel_rfl) rfl rfl rfl rfl rfl rfl (sF hg75) zsL (View.le_refl _) ?_
        refine SA.gskip 7 (u := 75) (by kernel_rfl) rfl rfl rfl rfl rfl rfl (sF hg75) zsL (View.le_refl _) ?_
        refine SA.gskip 8 (u := 75) (by kernel_rfl) rfl rfl rfl rfl rfl rfl (sF hg75) zsL (View.le_refl _) ?_
        refine SA.gskip 9 (u := 75) (by kernel_rfl) rfl rfl rfl rfl rfl rfl (sF hg75) zsL (View.le_refl _) ?_
        refine SA.gskip 10 (u := 75) (by kernel_rfl) rfl rfl rfl rfl rfl rfl (sF hg75) zsL (View.le_refl _) ?_
        refine SA.gskip 11 (u := 75) (by kernel_rfl) rfl rfl rfl rfl rfl rfl (sF hg75) zsL (View.le_refl _) ?_
        refine SA.gskip 12 (u := 75) (by kernel_rfl) rfl rfl rfl rfl rfl rfl (sF hg75) zsL (View.le_refl _) ?_
        exact K75 _ zcR
      case h25_2 => kernel_rfl
      case h25_3 => exact Wanted.plain rfl
      refine SA.done (by kernel_rfl) ?_
      refine WQ.thn ?_
      first | refine WC.cond rfl (fun hc4 => ?_) (fun hc4 => ?_) | refine WC.condB rfl (fun hc4 => ?_) (fun hc4 => ?_)
      · refine WC.region ?_
        refine WL.pur (Pur.move rfl) ?_
        refine WL.pur (Pur.move rfl) ?_
        refine WL.pur (Pur.move rfl) ?_
        refine' WL.pur (Pur.indexAddr (eqA (het (by omega))) rfl sl_23 ?h32_0) ?k32
        case h32_0 => omega
        refine' WL.pur (Pur.load1 rfl ty_9 ?h33_0) ?k33
        case h33_0 => exact RdV.rd hrs.1
        refine WL.new (New.buildSliceS (xs := [.tmp 91]) sl_23 zc_9 rfl rfl rfl (by rfl) (by rfl)) (fun b92 => ?_)
        refine' WL.any (Any.push (H1 := [(b92, _)]) (H2 := Hr) sl_23 zc_9 rfl by_9 rfl rfl hso ?h34_0 ?h34_1 ?h34_2 ?h34_3 rfl (by omega) (by omega)) ?k34
        case h34_0 => apply Rd.own_sub; exact zmE; exact Sub.refl _
        case h34_1 => first | rfl | assumption
        case h34_2 => first | rfl | assumption
        case h34_3 => exact ⟨rfl, hok3⟩
        rintro v93 σ _ ⟨hl4, hso4, rfl, rfl⟩ _
        refine WL.pur (Pur.assign rfl) ?_
        refine WL.nil ?_
        refine WQ.blk ?_
        refine WQ.thn ?_
        refine WC.region ?_
        refine WL.pur (Pur.move rfl) ?_
        refine' WL.pur (Pur.bin rfl rfl ?h35_0) ?k35
        case h35_0 => first | (refine Bin.addN (b := 1) ?_; omega) | (refine Bin.addI ?_; omega)
        refine WL.pur (Pur.assign rfl) ?_
        refine WL.nil ?_
        refine WQ.back _ ⟨i + 1, _, _, rfl, by omega, by rw [dedup_take hc3, if_pos hc4]; exact hso4, rfl, rfl, rfl⟩ (by omega) zcV zsL
      · refine WC.skip ?_
        refine WQ.blk ?_
        refine WQ.thn ?_
        refine WC.region ?_
        refine WL.pur (Pur.move rfl) ?_
        refine' WL.pur (Pur.bin rfl rfl ?h36_0) ?k36
        case h36_0 => first | (refine Bin.addN (b := 1) ?_; omega) | (refine Bin.addI ?_; omega)
        refine WL.pur (Pur.assign rfl) ?_
        refine WL.nil ?_
        refine WQ.back _ ⟨i + 1, sv, hl, rfl, by omega, by rw [dedup_take hc3, if_neg hc4]; exact hso, rfl, rfl, rfl⟩ (by omega) zcV zsL
    · refine WC.exit ?_
      refine WQ.thn_exit ?_
      refine WQ.back_exit ?_
      refine WQ.blk_here ?_
      refine WQ.thn ?_
      refine WC.seq ?_
      refine WC.region ?_
      refine WL.pur (Pur.move rfl) ?_
      refine WL.pur (Pur.assign rfl) ?_
      refine WL.nil ?_
      refine WQ.thn ?_
      refine WC.ret ?_
      refine WQ.ret1 Tryz.results47 rfl hl (List.Sublist.refl _) (View.le_trans hle1 hle2) ?_
      exact ⟨_, by rw [keysR_eq]; rw [List.take_of_length_le (by omega)] at hso; exact hso, rfl⟩

theorem r14_Read (σ0 : View) (pv : Value) (L : List EntD) (key : ByteArray) (h : R11V σ0 pv L) (ho : OrdOk L) :
    Tri Tryz.prog 29 #[pv, .string key] σ0 [] (fun v σ' H' => ∃ h, SlO σ' eStr 9 1 v (regHeld L key) h ∧ H' = h) := by
  have hmost := ho.most
  have hopsok : ∀ i, ∀ o ∈ opsAt L i, o.ok := r11_opsOk h
  refine Tri.of_body [(0, pv), (1, .string key)] Tryz.func29 rfl Tryz.ntmps29 (by simp) rfl (fun Hr => ?_)
  rw [List.nil_append]
  refine WC.seq ?_
  refine WC.region ?_
  refine WL.pur (Pur.assign rfl) ?_
  refine WL.nil ?_
  refine WQ.thn ?_
  refine WC.seq ?_
  refine WC.region ?_
  refine WL.pur (Pur.move rfl) ?_
  refine WL.pur (Pur.move rfl) ?_
  refine WL.call (H0 := []) (Hr := Hr) rfl Tryz.call104 (List.Perm.refl _) (r11_Spots _ _ L key 1 2 h ho) ?_
  rintro v13 σ _ ⟨⟨hh, hso0, rfl⟩, rfl⟩ _
  have htn := tripsN_len ho (isKey key 1 2) L.length
  refine WL.giveS (byt := 16) (H1 := []) (H2 := Hr) eSpot_mono hso0 (by omega) rfl (fun σ1 hle1 hsl1 => ?_)
  rw [List.nil_append]
  have h1 := h.mono hle1
  obtain ⟨sa, sc, rfl, hsc, hsb⟩ := hsl1.shape
  obtain ⟨sb, soff, hes, hsat⟩ := hsl1.rds
  refine WL.pur (Pur.assign rfl) ?_
  refine WL.nil ?_
  refine WQ.thn ?_
  refine WC.seq ?_
  refine WC.region ?_
  refine WL.new (New.buildSlice0 sl_23) (fun b14 => ?_)
  refine WL.pur (Pur.assign rfl) ?_
  refine WL.nil ?_
  refine WQ.thn ?_
  refine WC.seq ?_
  refine WC.seq ?_
  refine WC.region ?_
  refine WL.pur (Pur.assign rfl) ?_
  refine WL.nil ?_
  refine WQ.thn ?_
  refine WC.block ?_
  refine WC.loop (fun j m σ' H' => ∃ (i : Nat) (sv : Value) (acc : List ByteArray) (hl : HList), j = (tripsN L (isKey key 1 2) L.length).length - i ∧ i ≤ (tripsN L (isKey key 1 2) L.length).length ∧ acc.length ≤ i ∧ SlO σ1 eStr 9 1 sv acc hl ∧ acc ++ heldS L (((tripsN L (isKey key 1 2) L.length).map tOp).drop i) = regHeld L key ∧ m = [(0, pv), (5, .slice sa (tripsN L (isKey key 1 2) L.length).length sc), (6, sv), (7, .int .i64 (i : Int))] ∧ σ' = σ1 ∧ H' = hl ++ Hr) ⟨0, _, [], [(b14, rowO 9 [])], rfl, by omega, by simp, row_nilS _ b14, by rw [List.drop_zero, regHeld_trips]; rfl, rfl, rfl, rfl⟩ zcV zsL ?_
  rintro _ _ σ Hr ⟨i, sv, acc, hl, rfl, hi, hal, hso, hacc, rfl, rfl, rfl⟩
  refine WC.seq ?_
  refine WC.seq ?_
  refine WC.region ?_
  refine WL.pur (Pur.move rfl) ?_
  refine WL.pur (Pur.move rfl) ?_
  refine WL.pur (Pur.len rfl isSlice_160) ?_
  refine' WL.pur (Pur.bin rfl rfl ?h1_0) ?k1
  case h1_0 => first | exact Bin.ltN | exact Bin.ltI | exact Bin.ltS
  refine WL.nil ?_
  refine WQ.thn ?_
  first | refine WC.cond rfl (fun hc0 => ?_) (fun hc0 => ?_) | refine WC.condB rfl (fun hc0 => ?_) (fun hc0 => ?_)
  · obtain ⟨t, ht⟩ : ∃ t, (tripsN L (isKey key 1 2) L.length)[i]? = some t := ⟨_, List.getElem?_eq_getElem (by omega)⟩
    obtain ⟨hti, ht1, ht2, ht3⟩ := tripsN_mem (List.mem_of_getElem? ht)
    obtain ⟨vs, _, _, rfl, htr⟩ := hsat i t ht
    have hok := hopsok t.1 t.2.2 (List.mem_of_getElem? ht2)
    refine WC.skip ?_
    refine WQ.thn ?_
    refine WC.seq ?_
    refine WC.block ?_
    refine WC.seq ?_
    refine WC.region ?_
    refine WL.pur (Pur.move rfl) ?_
    refine WL.pur (Pur.move rfl) ?_
    refine WL.pur (Pur.move rfl) ?_
    refine' WL.pur (Pur.indexAddr (eqA (hes (by omega))) rfl sl_160 ?h2_0) ?k2
    case h2_0 => omega
    refine' WL.pur (Pur.loadN rfl ty_164 ?h3_0 ?h3_1) ?k3
    case h3_0 => exact RdV.rd htr
    case h3_1 => first | rfl | assumption
    refine WL.callP rfl Tryz.call105 ((r11_Operation _ _ L t h1 ho hti ht1 ht2)) ?_
    refine WL.new (New.alloc zc_51) (fun b8 => ?_)
    refine' WL.run0 (Run.storeAll rfl rfl ty_51 ?h4_0 (by first | rfl | assumption) ?h4_1 (by first | rfl | assumption)) ?k4
    case h4_0 => repeat (first | exact Part.one | exact Part.here | apply Part.cons | apply Part.app)
    case h4_1 => first | rfl | assumption
    refine WL.nil ?_
    refine WQ.thn ?_
    refine WC.seq ?_
    refine WC.region ?_
    refine WL.pur (Pur.assign rfl) ?_
    refine WL.nil ?_
    refine WQ.thn ?_
    refine WC.seq ?_
    refine WC.seq ?_
    refine WC.region ?_
    refine WL.pur (Pur.move rfl) ?_
    refine' WL.pur (Pur.bin rfl rfl ?h5_0) ?k5
    case h5_0 => first | (refine Bin.addN (b := 1) ?_; omega) | (refine Bin.addI ?_; omega)
    refine WL.pur (Pur.assign rfl) ?_
    refine WL.nil ?_
    refine WQ.thn ?_
    refine WC.block ?_
    refine WC.loop (fun j m σ' H' => ∃ (q : Nat) (ovp : Prop) (_ : Decidable ovp), j = (tripsN L (isKey key 1 2) L.length).length - (i + 1 + q) ∧ i + 1 + q ≤ (tripsN L (isKey key 1 2) L.length).length ∧ (ovp ↔ overB L t.1 ((((tripsN L (isKey key 1 2) L.length).map tOp).drop (i + 1)).take q) = true) ∧ m = [(0, pv), (5, .slice sa (tripsN L (isKey key 1 2) L.length).length sc), (6, sv), (7, .int .i64 (i : Int)), (8, .pointer (some ⟨b8, 0, none⟩)), (9, .bool (decide ovp)), (10, .int .i64 ((i + 1 + q : Nat) : Int))] ∧ σ' = σ ∧ H' = (b8, rowO 51 t.2.2.cells) :: (hl ++ Hr)) ⟨0, False, inferInstance, rfl, by omega, by simp [overB], rfl, rfl, rfl⟩ zcV zsL ?_
    rintro _ _ σ Hr ⟨q, ovp, hdec, rfl, hq, hovq, rfl, rfl, rfl⟩
    refine WC.seq ?_
    refine WC.seq ?_
    refine WC.region ?_
    refine WL.pur (Pur.move rfl) ?_
    refine WL.pur (Pur.move rfl) ?_
    refine WL.pur (Pur.len rfl isSlice_160) ?_
    refine' WL.pur (Pur.bin rfl rfl ?h6_0) ?k6
    case h6_0 => first | exact Bin.ltN | exact Bin.ltI | exact Bin.ltS
    refine WL.pur (Pur.move rfl) ?_
    refine' WL.andp (u := 33) (t := 36) rfl ?h7_0 ?h7_1 ?h7_2 rfl ?k7
    case h7_0 =>
      intro hg33 K33
      refine WL.gpur (u := 33) rfl rfl (gT hg33) (Pur.move rfl) ?_
      first | refine WL.gpur (u := 33) rfl rfl (gT hg33) (Pur.not rfl) ?_ | refine WL.gpur (u := 33) rfl rfl (gT hg33) (Pur.notB rfl) ?_
      exact K33 _ zcR rfl
    case h7_1 =>
      intro hg33 K33
      refine WL.gskip (u := 33) rfl rfl (sT hg33) ?_
      refine WL.gskip (u := 33) rfl rfl (sT hg33) ?_
      exact K33 _ zcR
    case h7_2 => exact Wanted.plain rfl
    refine WL.nil ?_
    refine WQ.thn ?_
    first | refine WC.cond rfl (fun hc1 => ?_) (fun hc1 => ?_) | refine WC.condB rfl (fun hc1 => ?_) (fun hc1 => ?_)
    · obtain ⟨c, hc⟩ : ∃ c, (tripsN L (isKey key 1 2) L.length)[i + 1 + q]? = some c := ⟨_, List.getElem?_eq_getElem hc1.1⟩
      obtain ⟨hci, hc1_, hc2_, hc3_⟩ := tripsN_mem (List.mem_of_getElem? hc)
      obtain ⟨vs2, _, _, rfl, hcr⟩ := hsat _ c hc
      have hkn := knows_iff (L := L) (tripsN_up L (isKey key 1 2) L.length) (show i < i + 1 + q by omega) ht hc
      have hrx : (((tripsN L (isKey key 1 2) L.length).map tOp).drop (i + 1))[q]? = some (tOp c) := by rw [List.getElem?_drop]; simp [hc]
      have hnew : (t.1 = c.1 ∨ seesN L t.1 c.1 = true) ↔ overB L t.1 ((((tripsN L (isKey key 1 2) L.length).map tOp).drop (i + 1)).take (q + 1)) = true := by
        rw [overB_step hrx]
        have h0 : overB L t.1 ((((tripsN L (isKey key 1 2) L.length).map tOp).drop (i + 1)).take q) = false := by
          cases hx : overB L t.1 ((((tripsN L (isKey key 1 2) L.length).map tOp).drop (i + 1)).take q) with
          | false => rfl
          | true => exact absurd (hovq.2 hx) hc1.2
        rw [h0]
        simp only [Bool.false_or, Bool.or_eq_true, decide_eq_true_eq]
        exact ⟨fun h => h.imp Eq.symm id, fun h => h.imp Eq.symm id⟩
      refine WC.skip ?_
      refine WQ.thn ?_
      refine WC.seq ?_
      refine WC.block ?_
      refine WC.drawH 11 11 mixed (by kernel_rfl) rfl ?_
      refine SA.take 0 (by kernel_rfl) rfl rfl rfl (Wanted.plain rfl) zsL (View.le_refl _) (Pur.move rfl) ?_
      refine SA.take 1 (by kernel_rfl) rfl rfl rfl (Wanted.plain rfl) zsL (View.le_refl _) (Pur.move rfl) ?_
      refine SA.take 2 (by kernel_rfl) rfl rfl rfl (Wanted.plain rfl) zsL (View.le_refl _) (Pur.move rfl) ?_
      refine' SA.take 3 (by kernel_rfl) rfl rfl rfl (Wanted.plain rfl) zsL (View.le_refl _) (Pur.indexAddr (eqA (hes (by omega))) rfl sl_160 ?h8_0) ?k8
      case h8_0 => omega
      refine' SA.take 4 (by kernel_rfl) rfl rfl rfl (Wanted.plain rfl) zsL (View.le_refl _) (Pur.loadN rfl ty_164 ?h9_0 ?h9_1) ?k9
      case h9_0 => exact RdV.rd htr
      case h9_1 => first | rfl | assumption
      refine SA.take 5 (by kernel_rfl) rfl rfl rfl (Wanted.plain rfl) zsL (View.le_refl _) (Pur.move rfl) ?_
      refine SA.take 6 (by kernel_rfl) rfl rfl rfl (Wanted.plain rfl) zsL (View.le_refl _) (Pur.move rfl) ?_
      refine' SA.take 7 (by kernel_rfl) rfl rfl rfl (Wanted.plain rfl) zsL (View.le_refl _) (Pur.indexAddr (eqA (hes (by omega))) rfl sl_160 ?h10_0) ?k10
      case h10_0 => omega
      refine' SA.take 8 (by kernel_rfl) rfl rfl rfl (Wanted.plain rfl) zsL (View.le_refl _) (Pur.loadN rfl ty_164 ?h11_0 ?h11_1) ?k11
      case h11_0 => exact RdV.rd hcr
      case h11_1 => first | rfl | assumption
      refine SA.callP 9 rfl rfl (Wanted.plain rfl) (by kernel_rfl) rfl Tryz.call106 zsL (View.le_refl _) ((r11_Knows _ _ L t c h1 ho hti hci hkn)) ?_
      refine SA.take 10 (by kernel_rfl) rfl rfl rfl (Wanted.plain rfl) zsL (View.le_refl _) (Pur.assign rfl) ?_
      refine SA.done (by kernel_rfl) ?_
      refine WQ.blk ?_
      refine WQ.thn ?_
      refine WC.region ?_
      refine WL.pur (Pur.move rfl) ?_
      refine' WL.pur (Pur.bin rfl rfl ?h12_0) ?k12
      case h12_0 => first | (refine Bin.addN (b := 1) ?_; omega) | (refine Bin.addI ?_; omega)
      refine WL.pur (Pur.assign rfl) ?_
      refine WL.nil ?_
      refine WQ.back _ ⟨q + 1, _, inferInstance, rfl, by omega, hnew, rfl, rfl, rfl⟩ (by omega) zcV zsL
    · have hov : ¬ ovp ↔ overB L t.1 (((tripsN L (isKey key 1 2) L.length).map tOp).drop (i + 1)) = false := by
        rw [hovq]
        constructor
        · intro hx
          by_cases hlt : i + 1 + q < (tripsN L (isKey key 1 2) L.length).length
          · exact absurd ⟨hlt, fun hp => hx (hovq.1 hp)⟩ hc1
          · rw [List.take_of_length_le (by rw [List.length_drop, List.length_map]; omega)] at hx
            simpa using hx
        · intro hx hy
          rw [overB_mono hy] at hx; cases hx
      refine WC.exit ?_
      refine WQ.thn_exit ?_
      refine WQ.back_exit ?_
      refine WQ.blk_here ?_
      refine WQ.thn ?_
      refine WC.seq ?_
      refine WC.region ?_
      refine WL.pur (Pur.fieldAddr rfl fo_51_0) ?_
      refine' WL.pur (Pur.load1 rfl ty_3 ?h13_0) ?k13
      case h13_0 => first | (apply Rd.own1; exact zmE; rfl) | (apply RdV.rd; apply RdV.idx (i := 0); assumption; rfl)
      refine' WL.pur (Pur.bin rfl rfl ?h14_0) ?k14
      case h14_0 => first | exact Bin.eqN (b := 1) | exact Bin.eqI
      refine WL.pur (Pur.move rfl) ?_
      refine' WL.andp (u := 52) (t := 55) rfl ?h15_0 ?h15_1 ?h15_2 rfl ?k15
      case h15_0 =>
        intro hg52 K52
        refine WL.gpur (u := 52) rfl rfl (gT hg52) (Pur.move rfl) ?_
        first | refine WL.gpur (u := 52) rfl rfl (gT hg52) (Pur.not rfl) ?_ | refine WL.gpur (u := 52) rfl rfl (gT hg52) (Pur.notB rfl) ?_
        exact K52 _ zcR rfl
      case h15_1 =>
        intro hg52 K52
        refine WL.gskip (u := 52) rfl rfl (sT hg52) ?_
        refine WL.gskip (u := 52) rfl rfl (sT hg52) ?_
        exact K52 _ zcR
      case h15_2 => exact Wanted.plain rfl
      refine WL.nil ?_
      refine WQ.thn ?_
      first | refine WC.cond rfl (fun hc2 => ?_) (fun hc2 => ?_) | refine WC.condB rfl (fun hc2 => ?_) (fun hc2 => ?_)
      · have htok : StrOk t.2.2.text := hok.2.2.1
        refine WC.region ?_
        refine WL.pur (Pur.move rfl) ?_
        refine WL.pur (Pur.fieldAddr rfl fo_51_2) ?_
        refine' WL.pur (Pur.load1 rfl ty_9 ?h16_0) ?k16
        case h16_0 => first | (apply Rd.own1; exact zmE; rfl) | (apply RdV.rd; apply RdV.idx (i := 2); assumption; rfl) | (apply RdV.rd; apply RdV.idx (off := 0) (i := 2); assumption; rfl)
        refine WL.new (New.buildSliceS (xs := [.tmp 58]) sl_23 zc_9 rfl rfl rfl (by rfl) (by rfl)) (fun b59 => ?_)
        refine' WL.any (Any.push (H1 := [(b59, _), (b8, _)]) (H2 := Hr) sl_23 zc_9 rfl by_9 rfl rfl hso ?h17_0 ?h17_1 ?h17_2 ?h17_3 rfl (by omega) (by omega)) ?k17
        case h17_0 => apply Rd.own_sub; exact zmE; exact Sub.refl _
        case h17_1 => first | rfl | assumption
        case h17_2 => first | rfl | assumption
        case h17_3 => exact ⟨rfl, htok⟩
        rintro v60 σ _ ⟨hl3, hso3, rfl, rfl⟩ _
        refine WL.pur (Pur.assign rfl) ?_
        refine WL.nil ?_
        refine WQ.blk ?_
        refine WQ.thn ?_
        refine WC.region ?_
        refine WL.pur (Pur.move rfl) ?_
        refine' WL.pur (Pur.bin rfl rfl ?h18_0) ?k18
        case h18_0 => first | (refine Bin.addN (b := 1) ?_; omega) | (refine Bin.addI ?_; omega)
        refine WL.pur (Pur.assign rfl) ?_
        refine WL.nil ?_
        refine WQ.back _ ⟨i + 1, _, _, _, rfl, by omega, by simp; omega, hso3, by rw [← hacc, heldS_drop ht, if_pos ⟨hc2.1, hov.1 hc2.2⟩, List.append_assoc], rfl, rfl, rfl⟩ (by omega) zcV zsL
      · refine WC.skip ?_
        refine WQ.blk ?_
        refine WQ.thn ?_
        refine WC.region ?_
        refine WL.pur (Pur.move rfl) ?_
        refine' WL.pur (Pur.bin rfl rfl ?h19_0) ?k19
        case h19_0 => first | (refine Bin.addN (b := 1) ?_; omega) | (refine Bin.addI ?_; omega)
        refine WL.pur (Pur.assign rfl) ?_
        refine WL.nil ?_
        refine WQ.back _ ⟨i + 1, sv, acc, hl, rfl, by omega, by omega, hso, by rw [← hacc, heldS_drop ht, if_neg (fun h => hc2 ⟨h.1, hov.2 h.2⟩), List.nil_append], rfl, rfl, rfl⟩ (by omega) zcV zsL
  · refine WC.exit ?_
    refine WQ.thn_exit ?_
    refine WQ.back_exit ?_
    refine WQ.blk_here ?_
    refine WQ.thn ?_
    refine WC.seq ?_
    refine WC.region ?_
    refine WL.pur (Pur.move rfl) ?_
    refine WL.pur (Pur.assign rfl) ?_
    refine WL.nil ?_
    refine WQ.thn ?_
    refine WC.ret ?_
    refine WQ.ret1 Tryz.results29 rfl hl (List.Sublist.refl _) hle1 ?_
    exact ⟨_, by rw [heldS_done (show (tripsN L (isKey key 1 2) L.length).length ≤ i by omega), List.append_nil] at hacc; rw [← hacc]; exact hso, rfl⟩

theorem r14_Keys (σ0 : View) (pv : Value) (L : List EntD) (h : R11V σ0 pv L) (ho : OrdOk L) :
    Tri Tryz.prog 25 #[pv] σ0 [] (fun v σ' H' => ∃ h, SlO σ' eStr 9 1 v (regKeys L) h ∧ H' = h) := by
  have hmost := ho.most
  refine Tri.of_body [(0, pv)] Tryz.func25 rfl Tryz.ntmps25 (by simp) rfl (fun Hr => ?_)
  rw [List.nil_append]
  refine WC.seq ?_
  refine WC.region ?_
  refine WL.pur (Pur.assign rfl) ?_
  refine WL.nil ?_
  refine WQ.thn ?_
  refine WC.seq ?_
  refine WC.region ?_
  refine WL.pur (Pur.move rfl) ?_
  refine WL.call (H0 := []) (Hr := Hr) rfl Tryz.call47 (List.Perm.refl _) (r11_Keys _ _ L 1 2 h ho) ?_
  rintro v7 σ _ ⟨hh, hso0, rfl⟩ hle0
  have hkn : (keysR L (isKind 1 2)).length ≤ L.length * 1024 := by
    have h1 := dedup_len (textsL (keysOf (opsN L (isKind 1 2) L.length)))
    rw [textsL_len] at h1
    have h2 := opsN_len ho (isKind 1 2) L.length
    unfold keysOf at h1
    rw [List.length_map] at h1
    rw [keysR_eq]; unfold keysOf; omega
  refine WL.giveS (byt := 16) (H1 := []) (H2 := Hr) eStr_mono hso0 (by omega) rfl (fun σ1 hle1 hK => ?_)
  rw [List.nil_append]
  obtain ⟨ka, kc, rfl, hkc, hkb⟩ := hK.shape
  obtain ⟨kb, koff, hek⟩ := addr_of hK
  refine WL.pur (Pur.assign rfl) ?_
  refine WL.nil ?_
  refine WQ.thn ?_
  refine WC.seq ?_
  refine WC.region ?_
  refine WL.new (New.buildSlice0 sl_23) (fun b8 => ?_)
  refine WL.pur (Pur.assign rfl) ?_
  refine WL.nil ?_
  refine WQ.thn ?_
  refine WC.seq ?_
  refine WC.seq ?_
  refine WC.region ?_
  refine WL.pur (Pur.assign rfl) ?_
  refine WL.nil ?_
  refine WQ.thn ?_
  refine WC.block ?_
  refine WC.loop (fun j m σ' H' => ∃ (i : Nat) (sv : Value) (hl : HList), j = (keysR L (isKind 1 2)).length - i ∧ i ≤ (keysR L (isKind 1 2)).length ∧ SlO σ' eStr 9 1 sv (((keysR L (isKind 1 2)).take i).filter (fun k => decide (0 < (regHeld L k).length))) hl ∧ σ1.le σ' ∧ m = [(0, pv), (3, .slice ka (keysR L (isKind 1 2)).length kc), (4, sv), (5, .int .i64 (i : Int))] ∧ H' = hl ++ Hr) ⟨0, _, [(b8, rowO 9 [])], rfl, by omega, by rw [List.take_zero]; exact row_nilS _ b8, View.le_refl _, rfl, rfl⟩ zcV zsL ?_
  rintro _ _ σ Hr ⟨i, sv, hl, rfl, hi, hso, hle9, rfl, rfl⟩
  have hK9 := hK.mono eStr_mono hle9
  refine WC.seq ?_
  refine WC.seq ?_
  refine WC.region ?_
  refine WL.pur (Pur.move rfl) ?_
  refine WL.pur (Pur.move rfl) ?_
  refine WL.pur (Pur.len rfl isSlice_23) ?_
  refine' WL.pur (Pur.bin rfl rfl ?h1_0) ?k1
  case h1_0 => first | exact Bin.ltN | exact Bin.ltI | exact Bin.ltS
  refine WL.nil ?_
  refine WQ.thn ?_
  first | refine WC.cond rfl (fun hc0 => ?_) (fun hc0 => ?_) | refine WC.condB rfl (fun hc0 => ?_) (fun hc0 => ?_)
  · have hks := str_rd hK9 hek hc0
    have hok3 := hks.2
    refine WC.skip ?_
    refine WQ.thn ?_
    refine WC.seq ?_
    refine WC.block ?_
    refine WC.seq ?_
    refine WC.region ?_
    refine WL.pur (Pur.move rfl) ?_
    refine WL.pur (Pur.move rfl) ?_
    refine WL.pur (Pur.move rfl) ?_
    refine' WL.pur (Pur.indexAddr (eqA (hek (by omega))) rfl sl_23 ?h2_0) ?k2
    case h2_0 => omega
    refine' WL.pur (Pur.load1 rfl ty_9 ?h3_0) ?k3
    case h3_0 => exact RdV.rd hks.1
    refine WL.call (H0 := []) (Hr := hl ++ Hr) rfl Tryz.call29 (List.Perm.refl _) (r14_Read _ _ L (sD (keysR L (isKind 1 2)) i) (h.mono (View.le_trans hle0 (View.le_trans hle1 hle9))) ho) ?_
    rintro v20 σ2 hR ⟨_, hsoR, rfl⟩ hle2
    obtain ⟨ra, rc, rfl, hrc⟩ := hsoR.shape
    refine WL.pur (Pur.len rfl isSlice_23) ?_
    refine' WL.pur (Pur.bin rfl rfl ?h4_0) ?k4
    case h4_0 => first | exact Bin.gtN (b := 0) | exact Bin.gtI
    refine WL.nil ?_
    refine WQ.thn ?_
    first | refine WC.cond rfl (fun hc1 => ?_) (fun hc1 => ?_) | refine WC.condB rfl (fun hc1 => ?_) (fun hc1 => ?_)
    · have hks2 := str_rd (hK9.mono eStr_mono hle2) hek hc0
      have hfl : (((keysR L (isKind 1 2)).take i).filter (fun k => decide (0 < (regHeld L k).length))).length ≤ i := Nat.le_trans (List.length_filter_le _ _) (by rw [List.length_take]; omega)
      refine WC.region ?_
      refine WL.pur (Pur.move rfl) ?_
      refine WL.pur (Pur.move rfl) ?_
      refine WL.pur (Pur.move rfl) ?_
      refine' WL.pur (Pur.indexAddr (eqA (hek (by omega))) rfl sl_23 ?h5_0) ?k5
      case h5_0 => omega
      refine' WL.pur (Pur.load1 rfl ty_9 ?h6_0) ?k6
      case h6_0 => exact RdV.rd hks2.1
      refine WL.new (New.buildSliceS (xs := [.tmp 27]) sl_23 zc_9 rfl rfl rfl (by rfl) (by rfl)) (fun b28 => ?_)
      refine' WL.any (Any.push (H1 := (b28, _) :: hR) (H2 := Hr) sl_23 zc_9 rfl by_9 rfl rfl (hso.mono eStr_mono hle2) ?h7_0 ?h7_1 ?h7_2 ?h7_3 rfl (by omega) (by omega)) ?k7
      case h7_0 => apply Rd.own_sub; exact zmE; exact Sub.refl _
      case h7_1 => first | rfl | assumption
      case h7_2 => first | rfl | assumption
      case h7_3 => exact ⟨rfl, hok3⟩
      rintro v29 σ _ ⟨hl3, hso3, rfl, rfl⟩ _
      refine WL.pur (Pur.assign rfl) ?_
      refine WL.nil ?_
      refine WQ.blk ?_
      refine WQ.thn ?_
      refine WC.region ?_
      refine WL.pur (Pur.move rfl) ?_
      refine' WL.pur (Pur.bin rfl rfl ?h8_0) ?k8
      case h8_0 => first | (refine Bin.addN (b := 1) ?_; omega) | (refine Bin.addI ?_; omega)
      refine WL.pur (Pur.assign rfl) ?_
      refine WL.nil ?_
      refine WQ.back _ ⟨i + 1, _, _, rfl, by omega, by rw [filter_take_step hc0, if_pos (by simpa using hc1)]; exact hso3, View.le_trans hle9 hle2, rfl, rfl⟩ (by omega) zcV zsL
    · refine WC.skip ?_
      refine WQ.blk ?_
      refine WQ.thn ?_
      refine WC.region ?_
      refine WL.pur (Pur.move rfl) ?_
      refine' WL.pur (Pur.bin rfl rfl ?h9_0) ?k9
      case h9_0 => first | (refine Bin.addN (b := 1) ?_; omega) | (refine Bin.addI ?_; omega)
      refine WL.pur (Pur.assign rfl) ?_
      refine WL.nil ?_
      refine WQ.back _ ⟨i + 1, sv, hl, rfl, by omega, by rw [filter_take_step hc0, if_neg (by simpa using hc1), List.append_nil]; exact hso.mono eStr_mono hle2, View.le_trans hle9 hle2, rfl, rfl⟩ (by omega) zcV zsL
  · refine WC.exit ?_
    refine WQ.thn_exit ?_
    refine WQ.back_exit ?_
    refine WQ.blk_here ?_
    refine WQ.thn ?_
    refine WC.seq ?_
    refine WC.region ?_
    refine WL.pur (Pur.move rfl) ?_
    refine WL.pur (Pur.assign rfl) ?_
    refine WL.nil ?_
    refine WQ.thn ?_
    refine WC.ret ?_
    refine WQ.ret1 Tryz.results25 rfl hl (List.Sublist.refl _) (View.le_trans hle0 (View.le_trans hle1 hle9)) ?_
    exact ⟨_, by rw [List.take_of_length_le (by omega), keysR_reg] at hso; exact hso, rfl⟩

end Go.Proofs.YtgoooilgmabkmaaGreat
namespace Go.Proofs.YtgoooilgmabkmaaGreat
open Go Go.Sl
set_option linter.unusedVariables false
set_option linter.unusedSimpArgs false
set_option maxRecDepth 100000

theorem cnt_step {L : List EntD} {S : List Trip} {i : Nat} {t : Trip} (h : S[i]? = some t) : (S.take (i + 1)).foldl (cntA L S) 0 = cntA L S ((S.take i).foldl (cntA L S) 0) t := by
  rw [List.take_add_one, h, Option.toList_some, List.foldl_append]; rfl

theorem r16_Value (σ0 : View) (pv : Value) (L : List EntD) (key : ByteArray) (h : R11V σ0 pv L) (ho : OrdOk L) :
    Tri Tryz.prog 42 #[pv, .string key] σ0 [] (fun v σ' H' => v = .int .i64 (cntV L key) ∧ H' = []) := by
  have hmost := ho.most
  have hopsok : ∀ i, ∀ o ∈ opsAt L i, o.ok := r11_opsOk h
  refine Tri.of_body [(0, pv), (1, .string key)] Tryz.func42 rfl Tryz.ntmps42 (by simp) rfl (fun Hr => ?_)
  rw [List.nil_append]
  refine WC.seq ?_
  refine WC.region ?_
  refine WL.pur (Pur.assign rfl) ?_
  refine WL.nil ?_
  refine WQ.thn ?_
  refine WC.seq ?_
  refine WC.region ?_
  refine WL.pur (Pur.move rfl) ?_
  refine WL.pur (Pur.move rfl) ?_
  refine WL.call (H0 := []) (Hr := Hr) rfl Tryz.call104 (List.Perm.refl _) (r11_Spots _ _ L key 6 7 h ho) ?_
  rintro v15 σ _ ⟨⟨hh, hso0, rfl⟩, rfl⟩ _
  have htn := tripsN_len ho (isKey key 6 7) L.length
  refine WL.giveS (byt := 16) (H1 := []) (H2 := Hr) eSpot_mono hso0 (by omega) rfl (fun σ1 hle1 hsl1 => ?_)
  rw [List.nil_append]
  have h1 := h.mono hle1
  obtain ⟨sa, sc, rfl, hsc, hsb⟩ := hsl1.shape
  obtain ⟨sb, soff, hes, hsat⟩ := hsl1.rds
  refine WL.pur (Pur.assign rfl) ?_
  refine WL.nil ?_
  refine WQ.thn ?_
  refine WC.seq ?_
  refine WC.region ?_
  refine WL.pur (Pur.assign rfl) ?_
  refine WL.nil ?_
  refine WQ.thn ?_
  refine WC.seq ?_
  refine WC.seq ?_
  refine WC.region ?_
  refine WL.pur (Pur.assign rfl) ?_
  refine WL.nil ?_
  refine WQ.thn ?_
  refine WC.block ?_
  refine WC.loop (fun j m σ' H' => ∃ (i : Nat) (a : Int), j = (tripsN L (isKey key 6 7) L.length).length - i ∧ i ≤ (tripsN L (isKey key 6 7) L.length).length ∧ a = ((tripsN L (isKey key 6 7) L.length).take i).foldl (cntA L (tripsN L (isKey key 6 7) L.length)) 0 ∧ m = [(0, pv), (5, .slice sa (tripsN L (isKey key 6 7) L.length).length sc), (6, .int .u64 a), (7, .int .i64 (i : Int))] ∧ σ' = σ1 ∧ H' = Hr) ⟨0, 0, rfl, by omega, rfl, rfl, rfl, rfl⟩ zcV zsL ?_
  rintro _ _ σ Hr ⟨i, a, rfl, hi, ha, rfl, rfl, rfl⟩
  refine WC.seq ?_
  refine WC.seq ?_
  refine WC.region ?_
  refine WL.pur (Pur.move rfl) ?_
  refine WL.pur (Pur.move rfl) ?_
  refine WL.pur (Pur.len rfl isSlice_160) ?_
  refine' WL.pur (Pur.bin rfl rfl ?h1_0) ?k1
  case h1_0 => first | exact Bin.ltN | exact Bin.ltI | exact Bin.ltS
  refine WL.nil ?_
  refine WQ.thn ?_
  first | refine WC.cond rfl (fun hc0 => ?_) (fun hc0 => ?_) | refine WC.condB rfl (fun hc0 => ?_) (fun hc0 => ?_)
  · obtain ⟨t, ht⟩ : ∃ t, (tripsN L (isKey key 6 7) L.length)[i]? = some t := ⟨_, List.getElem?_eq_getElem (by omega)⟩
    obtain ⟨hti, ht1, ht2, ht3⟩ := tripsN_mem (List.mem_of_getElem? ht)
    obtain ⟨vs, _, _, rfl, htr⟩ := hsat i t ht
    refine WC.skip ?_
    refine WQ.thn ?_
    refine WC.seq ?_
    refine WC.block ?_
    refine WC.seq ?_
    refine WC.region ?_
    refine WL.pur (Pur.move rfl) ?_
    refine WL.pur (Pur.move rfl) ?_
    refine WL.pur (Pur.move rfl) ?_
    refine' WL.pur (Pur.indexAddr (eqA (hes (by omega))) rfl sl_160 ?h2_0) ?k2
    case h2_0 => omega
    refine' WL.pur (Pur.loadN rfl ty_164 ?h3_0 ?h3_1) ?k3
    case h3_0 => exact RdV.rd htr
    case h3_1 => first | rfl | assumption
    refine WL.callP rfl Tryz.call105 ((r11_Operation _ _ L t h1 ho hti ht1 ht2)) ?_
    refine WL.new (New.alloc zc_51) (fun b8 => ?_)
    refine' WL.run0 (Run.storeAll rfl rfl ty_51 ?h4_0 (by first | rfl | assumption) ?h4_1 (by first | rfl | assumption)) ?k4
    case h4_0 => repeat (first | exact Part.one | exact Part.here | apply Part.cons | apply Part.app)
    case h4_1 => first | rfl | assumption
    refine WL.nil ?_
    refine WQ.thn ?_
    refine WC.seq ?_
    refine WC.seq ?_
    refine WC.region ?_
    refine WL.pur (Pur.fieldAddr rfl fo_51_0) ?_
    refine' WL.pur (Pur.load1 rfl ty_3 ?h5_0) ?k5
    case h5_0 => first | (apply Rd.own1; exact zmE; rfl) | (apply RdV.rd; apply RdV.idx (i := 0); assumption; rfl)
    refine' WL.pur (Pur.bin rfl rfl ?h6_0) ?k6
    case h6_0 => first | exact Bin.neN (b := 6) | exact Bin.neI
    refine WL.nil ?_
    refine WQ.thn ?_
    first | refine WC.cond rfl (fun hc1 => ?_) (fun hc1 => ?_) | refine WC.condB rfl (fun hc1 => ?_) (fun hc1 => ?_)
    · refine WC.exit ?_
      refine WQ.thn_exit ?_
      refine WQ.blk_here ?_
      refine WQ.thn ?_
      refine WC.region ?_
      refine WL.pur (Pur.move rfl) ?_
      refine' WL.pur (Pur.bin rfl rfl ?h7_0) ?k7
      case h7_0 => first | (refine Bin.addN (b := 1) ?_; omega) | (refine Bin.addI ?_; omega)
      refine WL.pur (Pur.assign rfl) ?_
      refine WL.nil ?_
      refine WQ.back _ ⟨i + 1, a, rfl, by omega, by rw [cnt_step ht, ← ha]; unfold cntA; rw [if_neg (fun h => hc1 h.1)], rfl, rfl, rfl⟩ (by omega) zcV zsL
    · have hk6 : t.2.2.kind = 6 := Decidable.not_not.1 hc1
      refine WC.skip ?_
      refine WQ.thn ?_
      refine WC.seq ?_
      refine WC.region ?_
      refine WL.pur (Pur.assign rfl) ?_
      refine WL.nil ?_
      refine WQ.thn ?_
      refine WC.seq ?_
      refine WC.seq ?_
      refine WC.region ?_
      refine WL.pur (Pur.assign rfl) ?_
      refine WL.nil ?_
      refine WQ.thn ?_
      refine WC.block ?_
      refine WC.loop (fun j m σ' H' => ∃ (q : Nat) (gp : Prop) (_ : Decidable gp), j = (tripsN L (isKey key 6 7) L.length).length - q ∧ q ≤ (tripsN L (isKey key 6 7) L.length).length ∧ (gp ↔ ∃ z ∈ (tripsN L (isKey key 6 7) L.length).take q, z.2.2.kind = 7 ∧ knowsT L t z) ∧ m = [(0, pv), (5, .slice sa (tripsN L (isKey key 6 7) L.length).length sc), (6, .int .u64 a), (7, .int .i64 (i : Int)), (8, .pointer (some ⟨b8, 0, none⟩)), (9, .bool (decide gp)), (10, .int .i64 (q : Int))] ∧ σ' = σ ∧ H' = (b8, rowO 51 t.2.2.cells) :: Hr) ⟨0, False, inferInstance, rfl, by omega, by simp, rfl, rfl, rfl⟩ zcV zsL ?_
      rintro _ _ σ Hr ⟨q, gp, hdec, rfl, hq, hg, rfl, rfl, rfl⟩
      refine WC.seq ?_
      refine WC.seq ?_
      refine WC.region ?_
      refine WL.pur (Pur.move rfl) ?_
      refine WL.pur (Pur.move rfl) ?_
      refine WL.pur (Pur.len rfl isSlice_160) ?_
      refine' WL.pur (Pur.bin rfl rfl ?h8_0) ?k8
      case h8_0 => first | exact Bin.ltN | exact Bin.ltI | exact Bin.ltS
      refine WL.nil ?_
      refine WQ.thn ?_
      first | refine WC.cond rfl (fun hc2 => ?_) (fun hc2 => ?_) | refine WC.condB rfl (fun hc2 => ?_) (fun hc2 => ?_)
      · obtain ⟨c, hc⟩ : ∃ c, (tripsN L (isKey key 6 7) L.length)[q]? = some c := ⟨_, List.getElem?_eq_getElem (by omega)⟩
        obtain ⟨hci, hc1_, hc2_, hc3_⟩ := tripsN_mem (List.mem_of_getElem? hc)
        obtain ⟨vs2, _, _, rfl, hcr⟩ := hsat _ c hc
        refine WC.skip ?_
        refine WQ.thn ?_
        refine WC.seq ?_
        refine WC.block ?_
        refine WC.seq ?_
        refine WC.region ?_
        refine WL.pur (Pur.move rfl) ?_
        refine WL.pur (Pur.move rfl) ?_
        refine WL.pur (Pur.move rfl) ?_
        refine' WL.pur (Pur.indexAddr (eqA (hes (by omega))) rfl sl_160 ?h9_0) ?k9
        case h9_0 => omega
        refine' WL.pur (Pur.loadN rfl ty_164 ?h10_0 ?h10_1) ?k10
        case h10_0 => exact RdV.rd hcr
        case h10_1 => first | rfl | assumption
        refine WL.callP rfl Tryz.call105 ((r11_Operation _ _ L c h1 ho hci hc1_ hc2_)) ?_
        refine WL.new (New.alloc zc_51) (fun b11 => ?_)
        refine' WL.run0 (Run.storeAll rfl rfl ty_51 ?h11_0 (by first | rfl | assumption) ?h11_1 (by first | rfl | assumption)) ?k11
        case h11_0 => repeat (first | exact Part.one | exact Part.here | apply Part.cons | apply Part.app)
        case h11_1 => first | rfl | assumption
        refine WL.nil ?_
        refine WQ.thn ?_
        refine WC.seq ?_
        refine WC.drawH 11 11 mixed (by kernel_rfl) rfl ?_
        refine SA.take 0 (by kernel_rfl) rfl rfl rfl (Wanted.plain rfl) zsL (View.le_refl _) (Pur.move rfl) ?_
        refine SA.take 1 (by kernel_rfl) rfl rfl rfl (Wanted.plain rfl) zsL (View.le_refl _) (Pur.move rfl) ?_
        refine SA.take 2 (by kernel_rfl) rfl rfl rfl (Wanted.plain rfl) zsL (View.le_refl _) (Pur.move rfl) ?_
        refine' SA.take 3 (by kernel_rfl) rfl rfl rfl (Wanted.plain rfl) zsL (View.le_refl _) (Pur.indexAddr (eqA (hes (by omega))) rfl sl_160 ?h12_0) ?k12
        case h12_0 => omega
        refine' SA.take 4 (by kernel_rfl) rfl rfl rfl (Wanted.plain rfl) zsL (View.le_refl _) (Pur.loadN rfl ty_164 ?h13_0 ?h13_1) ?k13
        case h13_0 => exact RdV.rd htr
        case h13_1 => first | rfl | assumption
        refine SA.take 5 (by kernel_rfl) rfl rfl rfl (Wanted.plain rfl) zsL (View.le_refl _) (Pur.move rfl) ?_
        refine SA.take 6 (by kernel_rfl) rfl rfl rfl (Wanted.plain rfl) zsL (View.le_refl _) (Pur.move rfl) ?_
        refine' SA.take 7 (by kernel_rfl) rfl rfl rfl (Wanted.plain rfl) zsL (View.le_refl _) (Pur.indexAddr (eqA (hes (by omega))) rfl sl_160 ?h14_0) ?k14
        case h14_0 => omega
        refine' SA.take 8 (by kernel_rfl) rfl rfl rfl (Wanted.plain rfl) zsL (View.le_refl _) (Pur.loadN rfl ty_164 ?h15_0 ?h15_1) ?k15
        case h15_0 => exact RdV.rd hcr
        case h15_1 => first | rfl | assumption
        refine SA.callP 9 rfl rfl (Wanted.plain rfl) (by kernel_rfl) rfl Tryz.call106 zsL (View.le_refl _) ((r11_KnowsG _ _ L t c h1 ho hti hci)) ?_
        refine SA.take 10 (by kernel_rfl) rfl rfl rfl (Wanted.plain rfl) zsL (View.le_refl _) (Pur.assign rfl) ?_
        refine SA.done (by kernel_rfl) ?_
        refine WQ.thn ?_
        refine WC.region ?_
        refine WL.pur (Pur.move rfl) ?_
        refine WL.pur (Pur.move rfl) ?_
        refine' WL.orp (u := 54) (t := 61) rfl ?h16_0 ?h16_1 ?h16_2 rfl ?k16
        case h16_0 =>
          intro hg54 K54
          refine WL.gpur (u := 54) rfl rfl (gF hg54) (Pur.fieldAddr rfl fo_51_0) ?_
          refine' WL.gpur (u := 54) rfl rfl (gF hg54) (Pur.load1 rfl ty_3 ?h17_0) ?k17
          case h17_0 => first | (apply Rd.own1; exact zmE; rfl) | (apply RdV.rd; apply RdV.idx (i := 0); assumption; rfl)
          refine' WL.gpur (u := 54) rfl rfl (gF hg54) (Pur.bin rfl rfl ?h18_0) ?k18
          case h18_0 => first | exact Bin.eqN (b := 7) | exact Bin.eqI
          refine WL.gpur (u := 54) rfl rfl (gF hg54) (Pur.move rfl) ?_
          refine' WL.andp (u := 58) (t := 60) rfl ?h19_0 ?h19_1 ?h19_2 rfl ?k19
          case h19_0 =>
            intro hg58 K58
            refine WL.gpur (u := 58) rfl rfl (gT hg58) (Pur.move rfl) ?_
            exact K58 _ zcR rfl
          case h19_1 =>
            intro hg58 K58
            refine WL.gskip (u := 58) rfl rfl (sT hg58) ?_
            exact K58 _ zcR
          case h19_2 => exact Wanted.guard (u := 54) rfl rfl rfl (gF hg54)
          exact K54 _ zcR rfl
        case h16_1 =>
          intro hg54 K54
          refine WL.gskip (u := 54) rfl rfl (sF hg54) ?_
          refine WL.gskip (u := 54) rfl rfl (sF hg54) ?_
          refine WL.gskip (u := 54) rfl rfl (sF hg54) ?_
          refine WL.gskip (u := 54) rfl rfl (sF hg54) ?_
          refine WL.gskipU (u := 58) rfl rfl ?_
          refine WL.gskip (u := 54) rfl rfl (sF hg54) ?_
          exact K54 _ zcR
        case h16_2 => exact Wanted.plain rfl
        refine WL.pur (Pur.assign rfl) ?_
        refine WL.nil ?_
        refine WQ.blk ?_
        refine WQ.thn ?_
        refine WC.region ?_
        refine WL.pur (Pur.move rfl) ?_
        refine' WL.pur (Pur.bin rfl rfl ?h20_0) ?k20
        case h20_0 => first | (refine Bin.addN (b := 1) ?_; omega) | (refine Bin.addI ?_; omega)
        refine WL.pur (Pur.assign rfl) ?_
        refine WL.nil ?_
        refine WQ.back _ ⟨q + 1, (gp ∨ (c.2.2.kind = 7 ∧ knowsT L t c)), inferInstance, rfl, by omega, by rw [List.take_add_one, hc, Option.toList_some]; exact any_snoc (Z := fun z => z.2.2.kind = 7 ∧ knowsT L t z) hg, rfl, rfl, rfl⟩ (by omega) zcV zsL
      · have hqq : q = (tripsN L (isKey key 6 7) L.length).length := by omega
        subst hqq
        rw [List.take_length] at hg
        refine WC.exit ?_
        refine WQ.thn_exit ?_
        refine WQ.back_exit ?_
        refine WQ.blk_here ?_
        refine WQ.thn ?_
        refine WC.seq ?_
        refine WC.region ?_
        refine WL.pur (Pur.move rfl) ?_
        first | refine WL.pur (Pur.not rfl) ?_ | refine WL.pur (Pur.notB rfl) ?_
        refine WL.nil ?_
        refine WQ.thn ?_
        first | refine WC.cond rfl (fun hc3 => ?_) (fun hc3 => ?_) | refine WC.condB rfl (fun hc3 => ?_) (fun hc3 => ?_)
        · refine WC.region ?_
          refine WL.pur (Pur.move rfl) ?_
          refine WL.pur (Pur.fieldAddr rfl fo_51_3) ?_
          refine' WL.pur (Pur.load1 rfl ty_2 ?h21_0) ?k21
          case h21_0 => first | (apply Rd.own1; exact zmE; rfl) | (apply RdV.rd; apply RdV.idx (i := 3); assumption; rfl) | (apply RdV.rd; apply RdV.idx (off := 0) (i := 3); assumption; rfl)
          refine WL.pur ((Pur.conv (ks := .i64) (kt := .u64) rfl (by kernel_rfl) (by kernel_rfl))) ?_
          refine' WL.pur (Pur.bin rfl rfl ?h22_0) ?k22
          case h22_0 => exact Bin.addWU
          refine WL.pur (Pur.assign rfl) ?_
          refine WL.nil ?_
          refine WQ.blk ?_
          refine WQ.thn ?_
          refine WC.region ?_
          refine WL.pur (Pur.move rfl) ?_
          refine' WL.pur (Pur.bin rfl rfl ?h23_0) ?k23
          case h23_0 => first | (refine Bin.addN (b := 1) ?_; omega) | (refine Bin.addI ?_; omega)
          refine WL.pur (Pur.assign rfl) ?_
          refine WL.nil ?_
          refine WQ.back _ ⟨i + 1, (IntKind.u64.wrap (a + IntKind.u64.wrap t.2.2.n)), rfl, by omega, by rw [cnt_step ht, ← ha]; unfold cntA; rw [if_pos ⟨hk6, fun h => hc3 (hg.2 h)⟩], rfl, rfl, rfl⟩ (by omega) zcV zsL
        · refine WC.skip ?_
          refine WQ.blk ?_
          refine WQ.thn ?_
          refine WC.region ?_
          refine WL.pur (Pur.move rfl) ?_
          refine' WL.pur (Pur.bin rfl rfl ?h24_0) ?k24
          case h24_0 => first | (refine Bin.addN (b := 1) ?_; omega) | (refine Bin.addI ?_; omega)
          refine WL.pur (Pur.assign rfl) ?_
          refine WL.nil ?_
          refine WQ.back _ ⟨i + 1, a, rfl, by omega, by rw [cnt_step ht, ← ha]; unfold cntA; rw [if_neg (fun h => hc3 (fun hp => h.2 (hg.1 hp)))], rfl, rfl, rfl⟩ (by omega) zcV zsL
  · have hil : i = (tripsN L (isKey key 6 7) L.length).length := by omega
    subst hil
    rw [List.take_length] at ha
    refine WC.exit ?_
    refine WQ.thn_exit ?_
    refine WQ.back_exit ?_
    refine WQ.blk_here ?_
    refine WQ.thn ?_
    refine WC.seq ?_
    refine WC.region ?_
    refine WL.pur (Pur.move rfl) ?_
    refine WL.pur ((Pur.conv (ks := .u64) (kt := .i64) rfl (by kernel_rfl) (by kernel_rfl))) ?_
    refine WL.pur (Pur.assign rfl) ?_
    refine WL.nil ?_
    refine WQ.thn ?_
    refine WC.ret ?_
    refine WQ.ret1 Tryz.results42 rfl [] zsL hle1 ?_
    exact ⟨by rw [ha]; rfl, rfl⟩

end Go.Proofs.YtgoooilgmabkmaaGreat
namespace Go.Proofs.YtgoooilgmabkmaaGreat
open Go Go.Sl
set_option linter.unusedVariables false
set_option linter.unusedSimpArgs false
set_option maxRecDepth 100000

theorem r16_Keys (σ0 : View) (pv : Value) (L : List EntD) (h : R11V σ0 pv L) (ho : OrdOk L) :
    Tri Tryz.prog 40 #[pv] σ0 [] (fun v σ' H' => ∃ h, SlO σ' eStr 9 1 v (cntKeys L) h ∧ H' = h) := by
  have hmost := ho.most
  refine Tri.of_body [(0, pv)] Tryz.func40 rfl Tryz.ntmps40 (by simp) rfl (fun Hr => ?_)
  rw [List.nil_append]
  refine WC.seq ?_
  refine WC.region ?_
  refine WL.pur (Pur.assign rfl) ?_
  refine WL.nil ?_
  refine WQ.thn ?_
  refine WC.seq ?_
  refine WC.region ?_
  refine WL.pur (Pur.move rfl) ?_
  refine WL.call (H0 := []) (Hr := Hr) rfl Tryz.call47 (List.Perm.refl _) (r11_Keys _ _ L 6 7 h ho) ?_
  rintro v8 σ _ ⟨hh, hso0, rfl⟩ hle0
  have hkn : (keysR L (isKind 6 7)).length ≤ L.length * 1024 := by
    have h1 := dedup_len (textsL (keysOf (opsN L (isKind 6 7) L.length)))
    rw [textsL_len] at h1
    have h2 := opsN_len ho (isKind 6 7) L.length
    unfold keysOf at h1
    rw [List.length_map] at h1
    rw [keysR_eq]; unfold keysOf; omega
  refine WL.giveS (byt := 16) (H1 := []) (H2 := Hr) eStr_mono hso0 (by omega) rfl (fun σ1 hle1 hK => ?_)
  rw [List.nil_append]
  obtain ⟨ka, kc, rfl, hkc, hkb⟩ := hK.shape
  obtain ⟨kb, koff, hek⟩ := addr_of hK
  refine WL.pur (Pur.assign rfl) ?_
  refine WL.nil ?_
  refine WQ.thn ?_
  refine WC.seq ?_
  refine WC.region ?_
  refine WL.new (New.buildSlice0 sl_23) (fun b9 => ?_)
  refine WL.pur (Pur.assign rfl) ?_
  refine WL.nil ?_
  refine WQ.thn ?_
  refine WC.seq ?_
  refine WC.seq ?_
  refine WC.region ?_
  refine WL.pur (Pur.assign rfl) ?_
  refine WL.nil ?_
  refine WQ.thn ?_
  refine WC.block ?_
  refine WC.loop (fun j m σ' H' => ∃ (i : Nat) (sv : Value) (hl : HList), j = (keysR L (isKind 6 7)).length - i ∧ i ≤ (keysR L (isKind 6 7)).length ∧ SlO σ' eStr 9 1 sv (((keysR L (isKind 6 7)).take i).filter (fun k => decide (cntV L k ≠ 0))) hl ∧ σ1.le σ' ∧ m = [(0, pv), (3, .slice ka (keysR L (isKind 6 7)).length kc), (4, sv), (5, .int .i64 (i : Int))] ∧ H' = hl ++ Hr) ⟨0, _, [(b9, rowO 9 [])], rfl, by omega, by rw [List.take_zero]; exact row_nilS _ b9, View.le_refl _, rfl, rfl⟩ zcV zsL ?_
  rintro _ _ σ Hr ⟨i, sv, hl, rfl, hi, hso, hle9, rfl, rfl⟩
  have hK9 := hK.mono eStr_mono hle9
  refine WC.seq ?_
  refine WC.seq ?_
  refine WC.region ?_
  refine WL.pur (Pur.move rfl) ?_
  refine WL.pur (Pur.move rfl) ?_
  refine WL.pur (Pur.len rfl isSlice_23) ?_
  refine' WL.pur (Pur.bin rfl rfl ?h1_0) ?k1
  case h1_0 => first | exact Bin.ltN | exact Bin.ltI | exact Bin.ltS
  refine WL.nil ?_
  refine WQ.thn ?_
  first | refine WC.cond rfl (fun hc0 => ?_) (fun hc0 => ?_) | refine WC.condB rfl (fun hc0 => ?_) (fun hc0 => ?_)
  · have hks := str_rd hK9 hek hc0
    have hok3 := hks.2
    refine WC.skip ?_
    refine WQ.thn ?_
    refine WC.seq ?_
    refine WC.block ?_
    refine WC.seq ?_
    refine WC.region ?_
    refine WL.pur (Pur.move rfl) ?_
    refine WL.pur (Pur.move rfl) ?_
    refine WL.pur (Pur.move rfl) ?_
    refine' WL.pur (Pur.indexAddr (eqA (hek (by omega))) rfl sl_23 ?h2_0) ?k2
    case h2_0 => omega
    refine' WL.pur (Pur.load1 rfl ty_9 ?h3_0) ?k3
    case h3_0 => exact RdV.rd hks.1
    refine WL.call (H0 := []) (Hr := hl ++ Hr) rfl Tryz.call42 (List.Perm.refl _) (r16_Value _ _ L (sD (keysR L (isKind 6 7)) i) (h.mono (View.le_trans hle0 (View.le_trans hle1 hle9))) ho) ?_
    rintro _ σ2 _ ⟨rfl, rfl⟩ hle2
    rw [List.nil_append]
    refine WL.pur (Pur.assign rfl) ?_
    refine WL.nil ?_
    refine WQ.thn ?_
    refine WC.seq ?_
    refine WC.region ?_
    refine WL.pur (Pur.move rfl) ?_
    refine' WL.pur (Pur.bin rfl rfl ?h4_0) ?k4
    case h4_0 => first | exact Bin.neN (b := 0) | exact Bin.neI
    refine WL.nil ?_
    refine WQ.thn ?_
    first | refine WC.cond rfl (fun hc1 => ?_) (fun hc1 => ?_) | refine WC.condB rfl (fun hc1 => ?_) (fun hc1 => ?_)
    · have hks2 := str_rd (hK9.mono eStr_mono hle2) hek hc0
      have hfl : (((keysR L (isKind 6 7)).take i).filter (fun k => decide (cntV L k ≠ 0))).length ≤ i := Nat.le_trans (List.length_filter_le _ _) (by rw [List.length_take]; omega)
      refine WC.region ?_
      refine WL.pur (Pur.move rfl) ?_
      refine WL.pur (Pur.move rfl) ?_
      refine WL.pur (Pur.move rfl) ?_
      refine' WL.pur (Pur.indexAddr (eqA (hek (by omega))) rfl sl_23 ?h5_0) ?k5
      case h5_0 => omega
      refine' WL.pur (Pur.load1 rfl ty_9 ?h6_0) ?k6
      case h6_0 => exact RdV.rd hks2.1
      refine WL.new (New.buildSliceS (xs := [.tmp 28]) sl_23 zc_9 rfl rfl rfl (by rfl) (by rfl)) (fun b29 => ?_)
      refine' WL.any (Any.push (H1 := [(b29, _)]) (H2 := Hr) sl_23 zc_9 rfl by_9 rfl rfl (hso.mono eStr_mono hle2) ?h7_0 ?h7_1 ?h7_2 ?h7_3 rfl (by omega) (by omega)) ?k7
      case h7_0 => apply Rd.own_sub; exact zmE; exact Sub.refl _
      case h7_1 => first | rfl | assumption
      case h7_2 => first | rfl | assumption
      case h7_3 => exact ⟨rfl, hok3⟩
      rintro v30 σ _ ⟨hl3, hso3, rfl, rfl⟩ _
      refine WL.pur (Pur.assign rfl) ?_
      refine WL.nil ?_
      refine WQ.blk ?_
      refine WQ.thn ?_
      refine WC.region ?_
      refine WL.pur (Pur.move rfl) ?_
      refine' WL.pur (Pur.bin rfl rfl ?h8_0) ?k8
      case h8_0 => first | (refine Bin.addN (b := 1) ?_; omega) | (refine Bin.addI ?_; omega)
      refine WL.pur (Pur.assign rfl) ?_
      refine WL.nil ?_
      refine WQ.back _ ⟨i + 1, _, _, rfl, by omega, by rw [filter_take_step hc0, if_pos (by simpa using hc1)]; exact hso3, View.le_trans hle9 hle2, rfl, rfl⟩ (by omega) zcV zsL
    · refine WC.skip ?_
      refine WQ.blk ?_
      refine WQ.thn ?_
      refine WC.region ?_
      refine WL.pur (Pur.move rfl) ?_
      refine' WL.pur (Pur.bin rfl rfl ?h9_0) ?k9
      case h9_0 => first | (refine Bin.addN (b := 1) ?_; omega) | (refine Bin.addI ?_; omega)
      refine WL.pur (Pur.assign rfl) ?_
      refine WL.nil ?_
      refine WQ.back _ ⟨i + 1, sv, hl, rfl, by omega, by rw [filter_take_step hc0, if_neg (by simpa using hc1), List.append_nil]; exact hso.mono eStr_mono hle2, View.le_trans hle9 hle2, rfl, rfl⟩ (by omega) zcV zsL
  · refine WC.exit ?_
    refine WQ.thn_exit ?_
    refine WQ.back_exit ?_
    refine WQ.blk_here ?_
    refine WQ.thn ?_
    refine WC.seq ?_
    refine WC.region ?_
    refine WL.pur (Pur.move rfl) ?_
    refine WL.pur (Pur.assign rfl) ?_
    refine WL.nil ?_
    refine WQ.thn ?_
    refine WC.ret ?_
    refine WQ.ret1 Tryz.results40 rfl hl (List.Sublist.refl _) (View.le_trans hle0 (View.le_trans hle1 hle9)) ?_
    exact ⟨_, by rw [List.take_of_length_le (by omega)] at hso; exact hso, rfl⟩

end Go.Proofs.YtgoooilgmabkmaaGreat
namespace Go.Proofs.YtgoooilgmabkmaaGreat
open Go Go.Sl
set_option linter.unusedVariables false
set_option linter.unusedSimpArgs false
set_option maxRecDepth 100000

theorem cntKeys_le {L : List EntD} (ho : OrdOk L) : (cntKeys L).length ≤ 4194304 := by
  unfold cntKeys
  refine Nat.le_trans (List.length_filter_le _ _) ?_
  rw [keysR_eq]
  refine Nat.le_trans (dedup_len _) ?_
  rw [textsL_len]
  unfold keysOf
  rw [List.length_map]
  have h1 := opsN_len ho (isKind 6 7) L.length
  have h2 := ho.most
  omega

set_option maxHeartbeats 2000000 in
theorem law16_told (σ : View) (pv qv kv : Value) (L : List EntD) (keys : List ByteArray) (hp : PastV σ pv L) (hq : R11V σ qv L) (ho : OrdOk L) (hk : Strs σ kv keys) :
    Tri Tryz.prog 51 #[pv, qv, kv] σ [] (fun v σ' H' => v = .bool true ∧ H' = []) := by
  have hKl := cntKeys_le ho
  obtain ⟨xa, xc, rfl, hxc, hxb⟩ := hk.shape
  obtain ⟨xb, xoff, hex⟩ := addr_of hk
  refine Tri.of_body [(0, pv), (1, qv), (2, .slice xa keys.length xc)] Tryz.func51 rfl Tryz.ntmps51 (by simp) rfl (fun Hr => ?_)
  rw [List.nil_append]
  refine WC.seq ?_
  refine WC.region ?_
  refine WL.pur (Pur.assign rfl) ?_
  refine WL.nil ?_
  refine WQ.thn ?_
  refine WC.seq ?_
  refine WC.region ?_
  refine WL.pur (Pur.move rfl) ?_
  refine WL.call (H0 := []) (Hr := Hr) rfl Tryz.call41 (List.Perm.refl _) (counts_Keys _ _ L hp ho) ?_
  rintro _ σ1 _ ⟨_, hso1, rfl⟩ hle1
  refine WL.giveS (byt := 16) (H1 := []) (H2 := Hr) eStr_mono hso1 (by omega) rfl (fun σ2 hle2 hA2 => ?_)
  rw [List.nil_append]
  refine WL.pur (Pur.assign rfl) ?_
  refine WL.nil ?_
  refine WQ.thn ?_
  refine WC.seq ?_
  refine WC.region ?_
  refine WL.pur (Pur.move rfl) ?_
  refine WL.call (H0 := []) (Hr := Hr) rfl Tryz.call40 (List.Perm.refl _) (r16_Keys _ _ L (hq.mono (View.le_trans hle1 hle2)) ho) ?_
  rintro _ σ3 _ ⟨_, hso3, rfl⟩ hle3
  refine WL.giveS (byt := 16) (H1 := []) (H2 := Hr) eStr_mono hso3 (by omega) rfl (fun σ4 hle4 hW => ?_)
  rw [List.nil_append]
  have hA4 := hA2.mono eStr_mono (View.le_trans hle3 hle4)
  have hle04 := (View.le_trans hle1 (View.le_trans hle2 (View.le_trans hle3 hle4)))
  obtain ⟨wa, wc, rfl, hwc, hwb⟩ := hW.shape
  obtain ⟨wb, woff, hew⟩ := addr_of hW
  obtain ⟨aa, ac, rfl, _, _⟩ := hA4.shape
  refine WL.pur (Pur.assign rfl) ?_
  refine WL.nil ?_
  refine WQ.thn ?_
  refine WC.seq ?_
  refine WC.seq ?_
  refine WC.region ?_
  refine WL.pur (Pur.move rfl) ?_
  refine WL.pur (Pur.move rfl) ?_
  refine WL.callP rfl Tryz.call26 ((r11_EqTexts _ _ _ _ _ hA4 hW)) ?_
  first | refine WL.pur (Pur.not rfl) ?_ | refine WL.pur (Pur.notB rfl) ?_
  refine WL.nil ?_
  refine WQ.thn ?_
  first | refine WC.cond rfl (fun hc0 => ?_) (fun hc0 => ?_) | refine WC.condB rfl (fun hc0 => ?_) (fun hc0 => ?_)
  · exact absurd rfl hc0
  · refine WC.skip ?_
    refine WQ.thn ?_
    refine WC.seq ?_
    refine WC.seq ?_
    refine WC.region ?_
    refine WL.pur (Pur.assign rfl) ?_
    refine WL.nil ?_
    refine WQ.thn ?_
    refine WC.block ?_
    refine WC.loop (fun j m σ' H' => ∃ i : Nat, j = (cntKeys L).length - i ∧ i ≤ (cntKeys L).length ∧ σ4.le σ' ∧ m = [(0, pv), (1, qv), (2, .slice xa keys.length xc), (8, .slice wa (cntKeys L).length wc), (9, .int .i64 (i : Int))] ∧ H' = Hr) ⟨0, rfl, by omega, View.le_refl _, rfl, rfl⟩ zcV zsL ?_
    rintro _ _ σ Hr ⟨i, rfl, hi, hlei, rfl, rfl⟩
    refine WC.seq ?_
    refine WC.seq ?_
    refine WC.region ?_
    refine WL.pur (Pur.move rfl) ?_
    refine WL.pur (Pur.move rfl) ?_
    refine WL.pur (Pur.len rfl isSlice_23) ?_
    refine' WL.pur (Pur.bin rfl rfl ?h1_0) ?k1
    case h1_0 => first | exact Bin.ltN | exact Bin.ltI | exact Bin.ltS
    refine WL.nil ?_
    refine WQ.thn ?_
    first | refine WC.cond rfl (fun hc1 => ?_) (fun hc1 => ?_) | refine WC.condB rfl (fun hc1 => ?_) (fun hc1 => ?_)
    · have hks := str_rd (hW.mono eStr_mono hlei) hew hc1
      have hpi := hp.mono (View.le_trans hle04 hlei)
      have hqi := hq.mono (View.le_trans hle04 hlei)
      refine WC.skip ?_
      refine WQ.thn ?_
      refine WC.seq ?_
      refine WC.block ?_
      refine WC.seq ?_
      refine WC.draw 13 13 ([]) mixed (by kernel_rfl) rfl ?_
      refine SA.take 0 (by kernel_rfl) rfl rfl rfl (Wanted.plain rfl) (List.nil_sublist _) (by first | exact View.le_refl _ | assumption) (Pur.move rfl) ?_
      refine SA.take 1 (by kernel_rfl) rfl rfl rfl (Wanted.plain rfl) (List.nil_sublist _) (by first | exact View.le_refl _ | assumption) (Pur.move rfl) ?_
      refine SA.take 2 (by kernel_rfl) rfl rfl rfl (Wanted.plain rfl) (List.nil_sublist _) (by first | exact View.le_refl _ | assumption) (Pur.move rfl) ?_
      refine' SA.take 3 (by kernel_rfl) rfl rfl rfl (Wanted.plain rfl) (List.nil_sublist _) (by first | exact View.le_refl _ | assumption) (Pur.indexAddr (eqA (hew (by omega))) rfl sl_23 ?h2_0) ?k2
      case h2_0 => omega
      refine' SA.take 4 (by kernel_rfl) rfl rfl rfl (Wanted.plain rfl) (List.nil_sublist _) (by first | exact View.le_refl _ | assumption) (Pur.load1 rfl ty_9 ?h3_0) ?k3
      case h3_0 => exact RdV.rd hks.1
      refine SA.take 6 (by kernel_rfl) rfl rfl rfl (Wanted.plain rfl) (List.nil_sublist _) (by first | exact View.le_refl _ | assumption) (Pur.move rfl) ?_
      refine SA.take 7 (by kernel_rfl) rfl rfl rfl (Wanted.plain rfl) (List.nil_sublist _) (by first | exact View.le_refl _ | assumption) (Pur.move rfl) ?_
      refine SA.take 8 (by kernel_rfl) rfl rfl rfl (Wanted.plain rfl) (List.nil_sublist _) (by first | exact View.le_refl _ | assumption) (Pur.move rfl) ?_
      refine' SA.take 9 (by kernel_rfl) rfl rfl rfl (Wanted.plain rfl) (List.nil_sublist _) (by first | exact View.le_refl _ | assumption) (Pur.indexAddr (eqA (hew (by omega))) rfl sl_23 ?h4_0) ?k4
      case h4_0 => omega
      refine' SA.take 10 (by kernel_rfl) rfl rfl rfl (Wanted.plain rfl) (List.nil_sublist _) (by first | exact View.le_refl _ | assumption) (Pur.load1 rfl ty_9 ?h5_0) ?k5
      case h5_0 => exact RdV.rd hks.1
      refine SA.callR 5 (H1 := []) (Hr := Hr) rfl rfl (Wanted.plain rfl) (by kernel_rfl) rfl Tryz.call32 (List.Perm.refl _) (.inr ⟨List.nil_sublist _, View.le_refl _⟩) (counts_Value _ _ L (sD (cntKeys L) i) hpi ho) ?_
      rintro _ σ5 _ ⟨rfl, rfl⟩ hle5
      rw [List.nil_append]
      refine SA.callR 11 (H1 := []) (Hr := Hr) rfl rfl (Wanted.plain rfl) (by kernel_rfl) rfl Tryz.call42 (List.Perm.refl _) (.inr ⟨List.nil_sublist _, hle5⟩) (r16_Value _ _ L (sD (cntKeys L) i) (hqi.mono hle5) ho) ?_
      rintro _ σ6 _ ⟨rfl, rfl⟩ hle6
      rw [List.nil_append]
      have hle56 := View.le_trans hle5 hle6
      refine' SA.take 12 (by kernel_rfl) rfl rfl rfl (Wanted.plain rfl) (List.nil_sublist _) (by first | exact View.le_refl _ | assumption) (Pur.bin rfl rfl ?h6_0) ?k6
      case h6_0 => first | exact Bin.neN | exact Bin.neI
      refine SA.done (by kernel_rfl) ?_
      refine WQ.thn ?_
      first | refine WC.cond rfl (fun hc2 => ?_) (fun hc2 => ?_) | refine WC.condB rfl (fun hc2 => ?_) (fun hc2 => ?_)
      · exact absurd rfl hc2
      · refine WC.skip ?_
        refine WQ.blk ?_
        refine WQ.thn ?_
        refine WC.region ?_
        refine WL.pur (Pur.move rfl) ?_
        refine' WL.pur (Pur.bin rfl rfl ?h7_0) ?k7
        case h7_0 => first | (refine Bin.addN (b := 1) ?_; omega) | (refine Bin.addI ?_; omega)
        refine WL.pur (Pur.assign rfl) ?_
        refine WL.nil ?_
        refine WQ.back _ ⟨i + 1, rfl, by omega, View.le_trans hlei hle56, rfl, rfl⟩ (by omega) zcV zsL
    · refine WC.exit ?_
      refine WQ.thn_exit ?_
      refine WQ.back_exit ?_
      refine WQ.blk_here ?_
      refine WQ.thn ?_
      refine WC.seq ?_
      refine WC.seq ?_
      refine WC.region ?_
      refine WL.pur (Pur.assign rfl) ?_
      refine WL.nil ?_
      refine WQ.thn ?_
      refine WC.block ?_
      refine WC.loop (fun j m σ' H' => ∃ i : Nat, j = keys.length - i ∧ i ≤ keys.length ∧ σ4.le σ' ∧ m = [(0, pv), (1, qv), (2, .slice xa keys.length xc), (10, .int .i64 (i : Int))] ∧ H' = Hr) ⟨0, rfl, by omega, hlei, rfl, rfl⟩ zcV zsL ?_
      rintro _ _ σ Hr ⟨i, rfl, hi, hlei, rfl, rfl⟩
      refine WC.seq ?_
      refine WC.seq ?_
      refine WC.region ?_
      refine WL.pur (Pur.move rfl) ?_
      refine WL.pur (Pur.move rfl) ?_
      refine WL.pur (Pur.len rfl isSlice_23) ?_
      refine' WL.pur (Pur.bin rfl rfl ?h8_0) ?k8
      case h8_0 => first | exact Bin.ltN | exact Bin.ltI | exact Bin.ltS
      refine WL.nil ?_
      refine WQ.thn ?_
      first | refine WC.cond rfl (fun hc3 => ?_) (fun hc3 => ?_) | refine WC.condB rfl (fun hc3 => ?_) (fun hc3 => ?_)
      · have hks := str_rd (hk.mono eStr_mono (View.le_trans hle04 hlei)) hex hc3
        have hpi := hp.mono (View.le_trans hle04 hlei)
        have hqi := hq.mono (View.le_trans hle04 hlei)
        refine WC.skip ?_
        refine WQ.thn ?_
        refine WC.seq ?_
        refine WC.block ?_
        refine WC.seq ?_
        refine WC.draw 13 13 ([]) mixed (by kernel_rfl) rfl ?_
        refine SA.take 0 (by kernel_rfl) rfl rfl rfl (Wanted.plain rfl) (List.nil_sublist _) (by first | exact View.le_refl _ | assumption) (Pur.move rfl) ?_
        refine SA.take 1 (by kernel_rfl) rfl rfl rfl (Wanted.plain rfl) (List.nil_sublist _) (by first | exact View.le_refl _ | assumption) (Pur.move rfl) ?_
        refine SA.take 2 (by kernel_rfl) rfl rfl rfl (Wanted.plain rfl) (List.nil_sublist _) (by first | exact View.le_refl _ | assumption) (Pur.move rfl) ?_
        refine' SA.take 3 (by kernel_rfl) rfl rfl rfl (Wanted.plain rfl) (List.nil_sublist _) (by first | exact View.le_refl _ | assumption) (Pur.indexAddr (eqA (hex (by omega))) rfl sl_23 ?h9_0) ?k9
        case h9_0 => omega
        refine' SA.take 4 (by kernel_rfl) rfl rfl rfl (Wanted.plain rfl) (List.nil_sublist _) (by first | exact View.le_refl _ | assumption) (Pur.load1 rfl ty_9 ?h10_0) ?k10
        case h10_0 => exact RdV.rd hks.1
        refine SA.take 6 (by kernel_rfl) rfl rfl rfl (Wanted.plain rfl) (List.nil_sublist _) (by first | exact View.le_refl _ | assumption) (Pur.move rfl) ?_
        refine SA.take 7 (by kernel_rfl) rfl rfl rfl (Wanted.plain rfl) (List.nil_sublist _) (by first | exact View.le_refl _ | assumption) (Pur.move rfl) ?_
        refine SA.take 8 (by kernel_rfl) rfl rfl rfl (Wanted.plain rfl) (List.nil_sublist _) (by first | exact View.le_refl _ | assumption) (Pur.move rfl) ?_
        refine' SA.take 9 (by kernel_rfl) rfl rfl rfl (Wanted.plain rfl) (List.nil_sublist _) (by first | exact View.le_refl _ | assumption) (Pur.indexAddr (eqA (hex (by omega))) rfl sl_23 ?h11_0) ?k11
        case h11_0 => omega
        refine' SA.take 10 (by kernel_rfl) rfl rfl rfl (Wanted.plain rfl) (List.nil_sublist _) (by first | exact View.le_refl _ | assumption) (Pur.load1 rfl ty_9 ?h12_0) ?k12
        case h12_0 => exact RdV.rd hks.1
        refine SA.callR 5 (H1 := []) (Hr := Hr) rfl rfl (Wanted.plain rfl) (by kernel_rfl) rfl Tryz.call32 (List.Perm.refl _) (.inr ⟨List.nil_sublist _, View.le_refl _⟩) (counts_Value _ _ L (sD keys i) hpi ho) ?_
        rintro _ σ5 _ ⟨rfl, rfl⟩ hle5
        rw [List.nil_append]
        refine SA.callR 11 (H1 := []) (Hr := Hr) rfl rfl (Wanted.plain rfl) (by kernel_rfl) rfl Tryz.call42 (List.Perm.refl _) (.inr ⟨List.nil_sublist _, hle5⟩) (r16_Value _ _ L (sD keys i) (hqi.mono hle5) ho) ?_
        rintro _ σ6 _ ⟨rfl, rfl⟩ hle6
        rw [List.nil_append]
        have hle56 := View.le_trans hle5 hle6
        refine' SA.take 12 (by kernel_rfl) rfl rfl rfl (Wanted.plain rfl) (List.nil_sublist _) (by first | exact View.le_refl _ | assumption) (Pur.bin rfl rfl ?h13_0) ?k13
        case h13_0 => first | exact Bin.neN | exact Bin.neI
        refine SA.done (by kernel_rfl) ?_
        refine WQ.thn ?_
        first | refine WC.cond rfl (fun hc4 => ?_) (fun hc4 => ?_) | refine WC.condB rfl (fun hc4 => ?_) (fun hc4 => ?_)
        · exact absurd rfl hc4
        · refine WC.skip ?_
          refine WQ.blk ?_
          refine WQ.thn ?_
          refine WC.region ?_
          refine WL.pur (Pur.move rfl) ?_
          refine' WL.pur (Pur.bin rfl rfl ?h14_0) ?k14
          case h14_0 => first | (refine Bin.addN (b := 1) ?_; omega) | (refine Bin.addI ?_; omega)
          refine WL.pur (Pur.assign rfl) ?_
          refine WL.nil ?_
          refine WQ.back _ ⟨i + 1, rfl, by omega, View.le_trans hlei hle56, rfl, rfl⟩ (by omega) zcV zsL
      · refine WC.exit ?_
        refine WQ.thn_exit ?_
        refine WQ.back_exit ?_
        refine WQ.blk_here ?_
        refine WQ.thn ?_
        refine WC.seq ?_
        refine WC.region ?_
        refine WL.pur (Pur.assign rfl) ?_
        refine WL.nil ?_
        refine WQ.thn ?_
        refine WC.ret ?_
        refine WQ.ret1 Tryz.results51 rfl [] zsL (View.le_trans hle04 hlei) ?_
        exact ⟨rfl, rfl⟩

set_option maxHeartbeats 2000000 in
theorem law16_CountsValues (σ : View) (lv hv kv : Value) (l : List EntD) (hs : List Nat) (keys : List ByteArray) (h : Ents σ lv l) (hh : Hashes σ hv hs) (hk : Strs σ kv keys) :
    Tri Tryz.prog 10 #[lv, hv, kv] σ [] (fun v σ' H' => v = .bool true) := by
  have h' := h
  obtain ⟨la, lc, rfl, hlc, hlby⟩ := h.shape
  have h1kv : kv.oneCell' = true := by obtain ⟨_, _, rfl, _⟩ := hk.shape; rfl
  have h1hv : hv.oneCell' = true := by obtain ⟨_, _, rfl, _⟩ := hh.shape; rfl
  refine Tri.of_body [(0, .slice la l.length lc), (1, hv), (2, kv)] Tryz.func10 rfl Tryz.ntmps10 (by simp) rfl (fun Hr => ?_)
  rw [List.nil_append]
  refine WC.seq ?_
  refine WC.region ?_
  refine WL.pur (Pur.assign rfl) ?_
  refine WL.nil ?_
  refine WQ.thn ?_
  refine WC.seq ?_
  refine WC.region ?_
  refine WL.pur (Pur.move rfl) ?_
  refine WL.call (H0 := []) (Hr := Hr) rfl Tryz.call23 (List.Perm.refl _) (past_Of2 _ _ l h') ?_
  rintro _ σ1 _ ⟨⟨pa, n1, rfl, hpp, hpn⟩, rfl⟩ hle1
  rw [List.nil_append]
  refine WL.pur (Pur.move rfl) ?_
  first | refine WL.pur (Pur.ex2_0 rfl) ?_ | refine WL.pur (Pur.ex3_0 rfl) ?_ | refine WL.pur (Pur.extractNext rfl) ?_ | refine WL.pur (Pur.extract rfl rfl) ?_
  first | refine WL.pur (Pur.ex2_1 rfl) ?_ | refine WL.pur (Pur.ex3_1 rfl) ?_ | refine WL.pur (Pur.extract rfl rfl) ?_
  first | refine WL.pur (Pur.ex3_2 rfl) ?_ | refine WL.pur (Pur.extract rfl rfl) ?_
  refine WL.pur (Pur.assign rfl) ?_
  refine WL.pur (Pur.assign rfl) ?_
  refine WL.pur (Pur.assign rfl) ?_
  refine WL.nil ?_
  refine WQ.thn ?_
  refine WC.seq ?_
  refine WC.region ?_
  refine WL.pur (Pur.move rfl) ?_
  refine WL.call (H0 := []) (Hr := Hr) rfl Tryz.call24 (List.Perm.refl _) (r11_Of2 _ _ l (h'.mono eEnt_mono hle1)) ?_
  rintro _ σ2 _ ⟨⟨qa, m3, rfl, hqq, hqn⟩, rfl⟩ hle2
  rw [List.nil_append]
  refine WL.pur (Pur.move rfl) ?_
  first | refine WL.pur (Pur.ex2_0 rfl) ?_ | refine WL.pur (Pur.ex3_0 rfl) ?_ | refine WL.pur (Pur.extractNext rfl) ?_ | refine WL.pur (Pur.extract rfl rfl) ?_
  first | refine WL.pur (Pur.ex2_1 rfl) ?_ | refine WL.pur (Pur.ex3_1 rfl) ?_ | refine WL.pur (Pur.extract rfl rfl) ?_
  first | refine WL.pur (Pur.ex3_2 rfl) ?_ | refine WL.pur (Pur.extract rfl rfl) ?_
  refine WL.pur (Pur.assign rfl) ?_
  refine WL.pur (Pur.assign rfl) ?_
  refine WL.pur (Pur.assign rfl) ?_
  refine WL.nil ?_
  refine WQ.thn ?_
  refine WC.seq ?_
  refine WC.seq ?_
  refine WC.region ?_
  refine WL.pur (Pur.move rfl) ?_
  refine' WL.pur (Pur.bin rfl rfl ?h1_0) ?k1
  case h1_0 => first | exact Bin.neN (b := 0) | exact Bin.neI
  refine WL.nil ?_
  refine WQ.thn ?_
  first | refine WC.cond rfl (fun hc0 => ?_) (fun hc0 => ?_) | refine WC.condB rfl (fun hc0 => ?_) (fun hc0 => ?_)
  · refine WC.seq ?_
    refine WC.region ?_
    refine WL.pur (Pur.move rfl) ?_
    refine WL.pur (Pur.move rfl) ?_
    refine' WL.pur (Pur.bin rfl rfl ?h2_0) ?k2
    case h2_0 => first | exact Bin.eqN | exact Bin.eqI
    refine WL.pur (Pur.move rfl) ?_
    refine' WL.andp (u := 34) (t := 37) rfl ?h3_0 ?h3_1 ?h3_2 rfl ?k3
    case h3_0 =>
      intro hg34 K34
      refine WL.gpur (u := 34) rfl rfl (gT hg34) (Pur.move rfl) ?_
      refine' WL.gpur (u := 34) rfl rfl (gT hg34) (Pur.bin rfl rfl ?h4_0) ?k4
      case h4_0 => exact Bin.eqP isPtr_25
      exact K34 _ zcR rfl
    case h3_1 =>
      intro hg34 K34
      refine WL.gskip (u := 34) rfl rfl (sT hg34) ?_
      refine WL.gskip (u := 34) rfl rfl (sT hg34) ?_
      exact K34 _ zcR
    case h3_2 => exact Wanted.plain rfl
    refine WL.pur (Pur.move rfl) ?_
    refine' WL.andp (u := 38) (t := 40) rfl ?h5_0 ?h5_1 ?h5_2 rfl ?k5
    case h5_0 =>
      intro hg38 K38
      refine WL.gcallR (H0 := []) (u := 38) rfl rfl (gT hg38) rfl Tryz.call31 (List.Perm.refl _) (law16_fixed _) ?_
      rintro v39 σf _ ⟨hfv, rfl⟩ hlef
      obtain rfl : v39 = .bool (decide True) := hfv
      rw [List.nil_append]
      refine WL.le hlef ?_
      exact K38 _ zcR rfl
    case h5_1 =>
      intro hg38 K38
      refine WL.gskip (u := 38) rfl rfl (sT hg38) ?_
      exact K38 _ zcR
    case h5_2 => exact Wanted.plain rfl
    refine WL.pur (Pur.assign rfl) ?_
    refine WL.nil ?_
    refine WQ.thn ?_
    refine WC.ret ?_
    refine WQ.thn_ret ?_
    refine WQ.ret1 Tryz.results10 rfl [] zsL (View.le_trans hle1 hle2) ?_
    exact (boolT ⟨⟨rfl, hpn hc0⟩, trivial⟩).symm
  · have h0 : (rightErr l).1 = 0 := Decidable.not_not.1 hc0
    have hone := oneOrd_ordE h0
    have ho := hone.ok
    have hq2 := hqq h0
    have hp2 := (hpp h0).mono hle2
    have hk2 := hk.mono eStr_mono (View.le_trans hle1 hle2)
    have hh2 := hh.mono eHash_mono (View.le_trans hle1 hle2)
    refine WC.skip ?_
    refine WQ.thn ?_
    refine WC.seq ?_
    refine WC.seq ?_
    refine WC.region ?_
    refine WL.pur (Pur.move rfl) ?_
    refine' WL.pur (Pur.bin rfl rfl ?h6_0) ?k6
    case h6_0 => exact Bin.eqP isPtr_25
    refine WL.pur (Pur.move rfl) ?_
    refine' WL.orp (u := 43) (t := 46) rfl ?h7_0 ?h7_1 ?h7_2 rfl ?k7
    case h7_0 =>
      intro hg43 K43
      refine WL.gpur (u := 43) rfl rfl (gF hg43) (Pur.move rfl) ?_
      refine' WL.gpur (u := 43) rfl rfl (gF hg43) (Pur.bin rfl rfl ?h8_0) ?k8
      case h8_0 => first | exact Bin.neN (b := 0) | exact Bin.neI
      exact K43 _ zcR rfl
    case h7_1 =>
      intro hg43 K43
      refine WL.gskip (u := 43) rfl rfl (sF hg43) ?_
      refine WL.gskip (u := 43) rfl rfl (sF hg43) ?_
      exact K43 _ zcR
    case h7_2 => exact Wanted.plain rfl
    refine WL.pur (Pur.move rfl) ?_
    refine' WL.orp (u := 47) (t := 53) rfl ?h9_0 ?h9_1 ?h9_2 rfl ?k9
    case h9_0 =>
      intro hg47 K47
      refine WL.gpur (u := 47) rfl rfl (gF hg47) (Pur.move rfl) ?_
      refine WL.gpur (u := 47) rfl rfl (gF hg47) (Pur.move rfl) ?_
      refine WL.gpur (u := 47) rfl rfl (gF hg47) (Pur.move rfl) ?_
      refine WL.gcallR (H0 := []) (u := 47) rfl rfl (gF hg47) rfl Tryz.call51 (List.Perm.refl _) (law16_told _ _ _ _ (ordE l) keys hp2 hq2 ho hk2) ?_
      rintro v51 σt _ ⟨htv, rfl⟩ hlet
      obtain rfl : v51 = .bool (decide True) := htv
      rw [List.nil_append]
      first | refine WL.gpur (u := 47) rfl rfl (gF hg47) (Pur.not rfl) ?_ | refine WL.gpur (u := 47) rfl rfl (gF hg47) (Pur.notB rfl) ?_
      refine WL.le hlet ?_
      exact K47 _ zcR rfl
    case h9_1 =>
      intro hg47 K47
      refine WL.gskip (u := 47) rfl rfl (sF hg47) ?_
      refine WL.gskip (u := 47) rfl rfl (sF hg47) ?_
      refine WL.gskip (u := 47) rfl rfl (sF hg47) ?_
      refine WL.gskip (u := 47) rfl rfl (sF hg47) ?_
      refine WL.gskip (u := 47) rfl rfl (sF hg47) ?_
      exact K47 _ zcR
    case h9_2 => exact Wanted.plain rfl
    refine WL.nil ?_
    refine WQ.thn ?_
    first | refine WC.cond rfl (fun hc1 => ?_) (fun hc1 => ?_) | refine WC.condB rfl (fun hc1 => ?_) (fun hc1 => ?_)
    · obtain ⟨_, _, _, _, hpe, _⟩ := hp2
      rcases hc1 with (hc | hc) | hc
      · subst hc; cases hpe
      · exact absurd h0 hc
      · exact absurd trivial hc
    · refine WC.skip ?_
      refine WQ.thn ?_
      refine WC.seq ?_
      refine WC.region ?_
      refine WL.pur (Pur.move rfl) ?_
      refine WL.pur (Pur.move rfl) ?_
      refine WL.call (H0 := []) (Hr := Hr) rfl Tryz.call52 (List.Perm.refl _) (past_At _ _ _ (ordE l) hs hp2 hone hh2) ?_
      rintro _ σ3 _ ⟨⟨pa2, ev, rfl, hor3⟩, rfl⟩ hle3
      rw [List.nil_append]
      refine WL.pur (Pur.move rfl) ?_
      first | refine WL.pur (Pur.ex2_0 rfl) ?_ | refine WL.pur (Pur.ex3_0 rfl) ?_ | refine WL.pur (Pur.extractNext rfl) ?_ | refine WL.pur (Pur.extract rfl rfl) ?_
      first | refine WL.pur (Pur.ex2_1 rfl) ?_ | refine WL.pur (Pur.ex3_1 rfl) ?_ | refine WL.pur (Pur.extract rfl rfl) ?_
      refine WL.pur (Pur.assign rfl) ?_
      refine WL.pur (Pur.assign rfl) ?_
      refine WL.nil ?_
      refine WQ.thn ?_
      refine WC.seq ?_
      refine WC.region ?_
      refine WL.pur (Pur.move rfl) ?_
      refine WL.pur (Pur.move rfl) ?_
      refine WL.call (H0 := []) (Hr := Hr) rfl Tryz.call53 (List.Perm.refl _) (r11_At _ _ _ (ordE l) hs (hq2.mono hle3) hone (hh2.mono eHash_mono hle3)) ?_
      rintro _ σ4 _ ⟨⟨qa2, ev2, rfl, hor4⟩, rfl⟩ hle4
      rw [List.nil_append]
      refine WL.pur (Pur.move rfl) ?_
      first | refine WL.pur (Pur.ex2_0 rfl) ?_ | refine WL.pur (Pur.ex3_0 rfl) ?_ | refine WL.pur (Pur.extractNext rfl) ?_ | refine WL.pur (Pur.extract rfl rfl) ?_
      first | refine WL.pur (Pur.ex2_1 rfl) ?_ | refine WL.pur (Pur.ex3_1 rfl) ?_ | refine WL.pur (Pur.extract rfl rfl) ?_
      refine WL.pur (Pur.assign rfl) ?_
      refine WL.pur (Pur.assign rfl) ?_
      refine WL.nil ?_
      refine WQ.thn ?_
      refine WC.seq ?_
      refine WC.seq ?_
      refine WC.region ?_
      refine WL.pur (Pur.move rfl) ?_
      refine' WL.pur (Pur.bin rfl rfl ?h10_0) ?k10
      case h10_0 => first | exact Bin.neN (b := 0) | exact Bin.neI
      refine WL.nil ?_
      refine WQ.thn ?_
      first | refine WC.cond rfl (fun hc2 => ?_) (fun hc2 => ?_) | refine WC.condB rfl (fun hc2 => ?_) (fun hc2 => ?_)
      · have hno : ¬ allH (ordE l) hs := (hor4.resolve_left (fun h => hc2 h.1)).2.1
        have hr3 := hor3.resolve_left (fun h => hno h.2.1)
        have hr4 := hor4.resolve_left (fun h => hno h.2.1)
        have hev : ev = ev2 := by rw [hr3.1, hr4.1]
        refine WC.seq ?_
        refine WC.region ?_
        refine WL.pur (Pur.move rfl) ?_
        refine WL.pur (Pur.move rfl) ?_
        refine' WL.pur (Pur.bin rfl rfl ?h11_0) ?k11
        case h11_0 => first | exact Bin.eqN | exact Bin.eqI
        refine WL.pur (Pur.move rfl) ?_
        refine' WL.andp (u := 71) (t := 74) rfl ?h12_0 ?h12_1 ?h12_2 rfl ?k12
        case h12_0 =>
          intro hg71 K71
          refine WL.gpur (u := 71) rfl rfl (gT hg71) (Pur.move rfl) ?_
          refine' WL.gpur (u := 71) rfl rfl (gT hg71) (Pur.bin rfl rfl ?h13_0) ?k13
          case h13_0 => exact Bin.eqP isPtr_25
          exact K71 _ zcR rfl
        case h12_1 =>
          intro hg71 K71
          refine WL.gskip (u := 71) rfl rfl (sT hg71) ?_
          refine WL.gskip (u := 71) rfl rfl (sT hg71) ?_
          exact K71 _ zcR
        case h12_2 => exact Wanted.plain rfl
        refine WL.pur (Pur.move rfl) ?_
        refine' WL.andp (u := 75) (t := 77) rfl ?h14_0 ?h14_1 ?h14_2 rfl ?k14
        case h14_0 =>
          intro hg75 K75
          refine WL.gcallR (H0 := []) (u := 75) rfl rfl (gT hg75) rfl Tryz.call31 (List.Perm.refl _) (law16_fixed _) ?_
          rintro v76 σf _ ⟨hfv, rfl⟩ hlef
          obtain rfl : v76 = .bool (decide True) := hfv
          rw [List.nil_append]
          refine WL.le hlef ?_
          exact K75 _ zcR rfl
        case h14_1 =>
          intro hg75 K75
          refine WL.gskip (u := 75) rfl rfl (sT hg75) ?_
          exact K75 _ zcR
        case h14_2 => exact Wanted.plain rfl
        refine WL.pur (Pur.assign rfl) ?_
        refine WL.nil ?_
        refine WQ.thn ?_
        refine WC.ret ?_
        refine WQ.thn_ret ?_
        refine WQ.ret1 Tryz.results10 rfl [] zsL (View.le_trans hle1 (View.le_trans hle2 (View.le_trans hle3 hle4))) ?_
        exact (boolT ⟨⟨hev, hr3.2.2⟩, trivial⟩).symm
      · have hr4 := hor4.resolve_right (fun h => hc2 (by rw [h.1]; decide))
        have hal := hr4.2.1
        have hr3 := hor3.resolve_right (fun h => h.2.1 hal)
        have hone2 := oneOrd_at hone (inH_closed ho hs)
        have hp4 := hr3.2.2.mono hle4
        have hq4 := hr4.2.2
        have hne : pa2 ≠ none := by rintro rfl; obtain ⟨_, _, _, _, hpe, _⟩ := hp4; cases hpe
        refine WC.skip ?_
        refine WQ.thn ?_
        refine WC.seq ?_
        refine WC.region ?_
        refine WL.pur (Pur.move rfl) ?_
        refine' WL.pur (Pur.bin rfl rfl ?h15_0) ?k15
        case h15_0 => exact Bin.neP isPtr_25
        refine WL.pur (Pur.move rfl) ?_
        refine' WL.andp (u := 80) (t := 83) rfl ?h16_0 ?h16_1 ?h16_2 rfl ?k16
        case h16_0 =>
          intro hg80 K80
          refine WL.gpur (u := 80) rfl rfl (gT hg80) (Pur.move rfl) ?_
          refine' WL.gpur (u := 80) rfl rfl (gT hg80) (Pur.bin rfl rfl ?h17_0) ?k17
          case h17_0 => first | exact Bin.eqN (b := 0) | exact Bin.eqI
          exact K80 _ zcR rfl
        case h16_1 =>
          intro hg80 K80
          refine WL.gskip (u := 80) rfl rfl (sT hg80) ?_
          refine WL.gskip (u := 80) rfl rfl (sT hg80) ?_
          exact K80 _ zcR
        case h16_2 => exact Wanted.plain rfl
        refine WL.pur (Pur.move rfl) ?_
        refine' WL.andp (u := 84) (t := 89) rfl ?h18_0 ?h18_1 ?h18_2 rfl ?k18
        case h18_0 =>
          intro hg84 K84
          refine WL.gpur (u := 84) rfl rfl (gT hg84) (Pur.move rfl) ?_
          refine WL.gpur (u := 84) rfl rfl (gT hg84) (Pur.move rfl) ?_
          refine WL.gpur (u := 84) rfl rfl (gT hg84) (Pur.move rfl) ?_
          refine WL.gcallR (H0 := []) (u := 84) rfl rfl (gT hg84) rfl Tryz.call51 (List.Perm.refl _) (law16_told _ _ _ _ _ keys hp4 hq4 hone2.ok (hk2.mono eStr_mono (View.le_trans hle3 hle4))) ?_
          rintro v88 σt _ ⟨htv, rfl⟩ hlet
          obtain rfl : v88 = .bool (decide True) := htv
          rw [List.nil_append]
          refine WL.le hlet ?_
          exact K84 _ zcR rfl
        case h18_1 =>
          intro hg84 K84
          refine WL.gskip (u := 84) rfl rfl (sT hg84) ?_
          refine WL.gskip (u := 84) rfl rfl (sT hg84) ?_
          refine WL.gskip (u := 84) rfl rfl (sT hg84) ?_
          refine WL.gskip (u := 84) rfl rfl (sT hg84) ?_
          exact K84 _ zcR
        case h18_2 => exact Wanted.plain rfl
        refine WL.pur (Pur.move rfl) ?_
        refine' WL.andp (u := 90) (t := 92) rfl ?h19_0 ?h19_1 ?h19_2 rfl ?k19
        case h19_0 =>
          intro hg90 K90
          refine WL.gcallR (H0 := []) (u := 90) rfl rfl (gT hg90) rfl Tryz.call31 (List.Perm.refl _) (law16_fixed _) ?_
          rintro v91 σf _ ⟨hfv, rfl⟩ hlef
          obtain rfl : v91 = .bool (decide True) := hfv
          rw [List.nil_append]
          refine WL.le hlef ?_
          exact K90 _ zcR rfl
        case h19_1 =>
          intro hg90 K90
          refine WL.gskip (u := 90) rfl rfl (sT hg90) ?_
          exact K90 _ zcR
        case h19_2 => exact Wanted.plain rfl
        refine WL.pur (Pur.assign rfl) ?_
        refine WL.nil ?_
        refine WQ.thn ?_
        refine WC.ret ?_
        refine WQ.ret1 Tryz.results10 rfl [] zsL (View.le_trans hle1 (View.le_trans hle2 (View.le_trans hle3 hle4))) ?_
        exact (boolT ⟨⟨⟨hne, hr3.1⟩, trivial⟩, trivial⟩).symm

end Go.Proofs.YtgoooilgmabkmaaGreat
