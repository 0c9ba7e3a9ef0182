/-
  Contracts of the functions of the program: what each call hands back, from what is known and owned.
-/
import Derived.Test.YtgoooilgmabkmaaCc
import Derived.Test.YtgoooilgmabkmaaRows
import Derived.WalkKit
import Derived.ProofKit
import Derived.OpenShut
import Derived.ShutString
import Derived.ChangeOld
import Derived.Below
import Derived.Shelf.SlSortCmp.NoneTotal
set_option linter.unusedVariables false
set_option linter.unusedSimpArgs false
set_option linter.unusedSectionVars false
namespace Go.Proofs.Ytgoooilgmabkmaa
open Go Go.Sl
set_option linter.unusedVariables false
set_option linter.unusedSimpArgs false
set_option maxRecDepth 100000

theorem own0 : ownKnob Try.prog.godebug = none := by kernel_rfl
theorem laidOut0 : laidOutB Try.prog = true := by kernel_rfl
theorem c39 : Try.prog.cellsOf 31 = 32 := by kernel_rfl
theorem c51 : Try.prog.cellsOf 53 = 37 := by kernel_rfl
theorem c45 : Try.prog.cellsOf 37 = 36 := by kernel_rfl
theorem c43 : Try.prog.cellsOf 35 = 4 := by kernel_rfl
theorem c49 : Try.prog.cellsOf 51 = 33 := by kernel_rfl
theorem c9 : Try.prog.cellsOf 9 = 1 := by kernel_rfl
theorem c3 : Try.prog.cellsOf 3 = 1 := by kernel_rfl
theorem c2 : Try.prog.cellsOf 2 = 1 := by kernel_rfl
theorem c41 : Try.prog.cellsOf 32 = 1 := by kernel_rfl
theorem c40 : Try.prog.cellsOf 33 = 1 := by kernel_rfl
theorem y39 : Try.prog.bytesOf 31 = 32 := by kernel_rfl
theorem y51 : Try.prog.bytesOf 53 = 88 := by kernel_rfl
theorem y45 : Try.prog.bytesOf 37 = 96 := by kernel_rfl
theorem y9 : Try.prog.bytesOf 9 = 16 := by kernel_rfl
theorem cutC {cs rest : List Value} {off sz : Nat} (h : cs.drop (off + sz) = rest) : cs.drop off = (cs.drop off).take sz ++ rest := by
  rw [← h, ← List.drop_drop]
  exact (List.take_append_drop sz (cs.drop off)).symm
section
variable {H : Type} {enc : TypeId × Value → H} {W : World}
theorem rd_hash : Reads enc Try.prog W 31 eHash := Reads.hash Try.underlying31 Try.underlying5 (by kernel_rfl) c39
theorem rd_str : Reads enc Try.prog W 9 eStr := Reads.string Try.underlying9
theorem rd_i64 : Reads enc Try.prog W 3 eInt := Reads.i64 Try.underlying3
theorem rd_i64b : Reads enc Try.prog W 2 eInt := Reads.i64 Try.underlying2
def eIdent : Enc (Nat × Int) := fun _ x vs => vs = identCells x.1 x.2 ∧ IsH x.1 ∧ I64 x.2
theorem rd_ident : Reads enc Try.prog W 51 eIdent := by
  intro fuel cs d ps h hl hlen
  rw [c49] at hlen
  obtain ⟨a, _, a2, a3⟩ := Reads.field (off := 0) Try.underlying51 h hl 0 rfl rfl c39 (by omega) rd_hash
  obtain ⟨b, _, b2, b3⟩ := Reads.field (off := 32) Try.underlying51 h hl 1 rfl rfl c3 (by omega) rd_i64
  have e := cutC (cs := cs) (off := 0) (sz := 32) (cutC (off := 0 + 32) (sz := 1) (List.drop_of_length_le (by omega)))
  rw [List.drop_zero] at e a2
  rw [a2, show 0 + 32 = 32 from rfl, b2] at e
  refine ⟨(a, b), ?_, e, a3, b3⟩
  rw [e]
  rfl
theorem rd_op : Reads enc Try.prog W 53 eOp := by
  intro fuel cs d ps h hl hlen
  rw [c51] at hlen
  obtain ⟨a, _, a2, a3⟩ := Reads.field (off := 0) Try.underlying53 h hl 0 rfl rfl c3 (by omega) rd_i64
  obtain ⟨b, _, b2, b3⟩ := Reads.field (off := 1) Try.underlying53 h hl 1 rfl rfl c9 (by omega) rd_str
  obtain ⟨c, _, c2', c3'⟩ := Reads.field (off := 2) Try.underlying53 h hl 2 rfl rfl c9 (by omega) rd_str
  obtain ⟨n, _, n2, n3⟩ := Reads.field (off := 3) Try.underlying53 h hl 3 rfl rfl c2 (by omega) rd_i64b
  obtain ⟨t, _, t2, t3, t4⟩ := Reads.field (off := 4) Try.underlying53 h hl 4 rfl rfl c49 (by omega) rd_ident
  have e := cutC (cs := cs) (off := 0) (sz := 1) (cutC (off := 1) (sz := 1) (cutC (off := 2) (sz := 1) (cutC (off := 3) (sz := 1) (cutC (off := 4) (sz := 33) (List.drop_of_length_le (by omega))))))
  rw [List.drop_zero] at e a2
  rw [a2, b2, c2', n2, t2] at e
  refine ⟨⟨a, b, c, n, t.1, t.2⟩, ?_, e, a3, b3, c3', n3, t3, t4⟩
  rw [e]
  rfl
theorem rd_hashes : Reads enc Try.prog W 32 (fun σ (l : List Nat) vs => ∃ sv, vs = [sv] ∧ SlE σ eHash 32 32 sv l) := by
  have h := Reads.slice (enc := enc) (W := W) (byt := 32) Try.underlying32 (by rw [c39]; decide) (by rw [y39]; decide) rd_hash
  rw [c39] at h
  exact h
theorem rd_ops : Reads enc Try.prog W 33 (fun σ (l : List OpD) vs => ∃ sv, vs = [sv] ∧ SlE σ eOp 37 88 sv l) := by
  have h := Reads.slice (enc := enc) (W := W) (byt := 88) Try.underlying33 (by rw [c51]; decide) (by rw [y51]; decide) rd_op
  rw [c51] at h
  exact h
def eNode : Enc NodeD := fun σ x vs => ∃ pv ov, vs = nodeCells x.au x.cl pv ov ∧ NodeR σ x pv ov
theorem rd_node : Reads enc Try.prog W 35 eNode := by
  intro fuel cs d ps h hl hlen
  rw [c43] at hlen
  obtain ⟨a, _, a2, a3⟩ := Reads.field (off := 0) Try.underlying35 h hl 0 rfl rfl c3 (by omega) rd_i64
  obtain ⟨b, _, b2, b3⟩ := Reads.field (off := 1) Try.underlying35 h hl 1 rfl rfl c3 (by omega) rd_i64
  obtain ⟨p, _, pv, p2, p3⟩ := Reads.field (off := 2) Try.underlying35 h hl 2 rfl rfl c41 (by omega) rd_hashes
  obtain ⟨o, _, ov, o2, o3⟩ := Reads.field (off := 3) Try.underlying35 h hl 3 rfl rfl c40 (by omega) rd_ops
  have e := cutC (cs := cs) (off := 0) (sz := 1) (cutC (off := 1) (sz := 1) (cutC (off := 2) (sz := 1) (cutC (off := 3) (sz := 1) (List.drop_of_length_le (by omega)))))
  rw [List.drop_zero] at e a2
  rw [a2, b2, p2, o2] at e
  refine ⟨⟨a, b, p, o⟩, ?_, pv, ov, e, p3, o3, a3, b3⟩
  obtain ⟨pa, pc, rfl, _⟩ := p3.shape
  obtain ⟨oa, oc, rfl, _⟩ := o3.shape
  rw [e]
  rfl
theorem rd_ent : Reads enc Try.prog W 37 eEnt := by
  intro fuel cs d ps h hl hlen
  rw [c45] at hlen
  obtain ⟨a, _, a2, a3⟩ := Reads.field (off := 0) Try.underlying37 h hl 0 rfl rfl c39 (by omega) rd_hash
  obtain ⟨x, _, pv, ov, x2, x3⟩ := Reads.field (off := 32) Try.underlying37 h hl 1 rfl rfl c43 (by omega) rd_node
  have e := cutC (cs := cs) (off := 0) (sz := 32) (cutC (off := 32) (sz := 4) (List.drop_of_length_le (by omega)))
  rw [List.drop_zero] at e a2
  rw [a2, x2] at e
  refine ⟨⟨a, x⟩, ?_, pv, ov, e, a3, x3⟩
  obtain ⟨pa, pc, rfl, _⟩ := x3.1.shape
  obtain ⟨oa, oc, rfl, _⟩ := x3.2.1.shape
  rw [e]
  rfl
theorem rd_ents : Reads enc Try.prog W 23 (fun σ (l : List EntD) vs => ∃ sv, vs = [sv] ∧ Ents σ sv l) := by
  have h := Reads.slice (enc := enc) (W := W) (byt := 96) Try.underlying23 (by rw [c45]; decide) (by rw [y45]; decide) rd_ent
  rw [c45] at h
  exact h
theorem rd_strs : Reads enc Try.prog W 54 (fun σ (l : List ByteArray) vs => ∃ sv, vs = [sv] ∧ Strs σ sv l) := by
  have h := Reads.slice (enc := enc) (W := W) (byt := 16) Try.underlying54 (by rw [c9]; decide) (by rw [y9]; decide) rd_str
  rw [c9] at h
  exact h
theorem ents_of {v : Value} {d : DataW H} {p : List MemPlace} (h : DataW.Trod enc Try.prog W 0 (fun _ => true) true 23 v d p) (hl : Lite Try.prog 23 d) (hv : v.cells = #[v]) : ∃ l, Ents (full W) v l := by
  obtain ⟨fuel, hf⟩ := h
  obtain ⟨l, _, sv, h1, h2⟩ := rd_ents fuel _ d p hf hl (by rw [hv]; kernel_rfl)
  rw [hv] at h1
  cases h1
  exact ⟨l, h2⟩
theorem strs_of {v : Value} {d : DataW H} {p : List MemPlace} (h : DataW.Trod enc Try.prog W 0 (fun _ => true) true 54 v d p) (hl : Lite Try.prog 54 d) (hv : v.cells = #[v]) : ∃ l, Strs (full W) v l := by
  obtain ⟨fuel, hf⟩ := h
  obtain ⟨l, _, sv, h1, h2⟩ := rd_strs fuel _ d p hf hl (by rw [hv]; kernel_rfl)
  rw [hv] at h1
  cases h1
  exact ⟨l, h2⟩
theorem lite2 {t0 t1 : TypeId} {d0 d1 : DataW H} {gt : List TypeId} {gs : List (DataW H)} (h : (DataW.weightsEach Try.prog (t0 :: t1 :: gt) (d0 :: d1 :: gs)).all (· ≤ reachBytes) = true) : Lite Try.prog t0 d0 ∧ Lite Try.prog t1 d1 := by
  rw [List.all_eq_true] at h
  simp only [DataW.weightsEach, List.mem_append] at h
  exact ⟨fun x hx => by simpa using h x (.inl hx), fun x hx => by simpa using h x (.inr (.inl hx))⟩
end
end Go.Proofs.Ytgoooilgmabkmaa
namespace Go.Proofs.Ytgoooilgmabkmaa
open Go Go.Sl
set_option linter.unusedVariables false
set_option linter.unusedSimpArgs false
set_option maxRecDepth 100000

end Go.Proofs.Ytgoooilgmabkmaa
namespace Go.Proofs.Ytgoooilgmabkmaa
open Go Go.Sl
set_option linter.unusedVariables false
set_option linter.unusedSimpArgs false
set_option maxRecDepth 100000

theorem row_nil (σ : View) (b : Nat) : SlO σ eNat 3 1 (.slice (some ⟨b, 0, none⟩) 0 0) ([] : List Nat) [(b, rowO 3 [])] := SlO.row (b := b) (ElR.nil (σ := σ) (E := eNat) (sz := 1))
theorem row_one (σ : View) (b x : Nat) : SlO σ eNat 3 1 (.slice (some ⟨b, 0, none⟩) 1 1) [x] [(b, rowO 3 [.int .i64 (x : Int)])] := SlO.row (b := b) (vss := [[.int .i64 (x : Int)]]) (ElR.nil.push (l := []) (vss := []) rfl rfl rfl)
theorem merge_drop {le : Nat → Nat → Bool} {a b : List Nat} {i k : Nat} (hx : i < a.length) (hy : k < b.length) :
    List.merge (a.drop i) (b.drop k) le = if le (a.getD i 0) (b.getD k 0) then a.getD i 0 :: List.merge (a.drop (i + 1)) (b.drop k) le else b.getD k 0 :: List.merge (a.drop i) (b.drop (k + 1)) le := by
  rw [drop_getD hx, drop_getD hy, List.cons_merge_cons]
theorem merge_left {le : Nat → Nat → Bool} {a b : List Nat} {i k : Nat} (hx : i < a.length) (hk : b.length ≤ k) :
    List.merge (a.drop i) (b.drop k) le = a.getD i 0 :: List.merge (a.drop (i + 1)) (b.drop k) le := by
  rw [List.drop_eq_nil_of_le hk, List.merge_right, List.merge_right, drop_getD hx]
theorem merge_right' {le : Nat → Nat → Bool} {a b : List Nat} {i k : Nat} (hy : k < b.length) (hi : a.length ≤ i) :
    List.merge (a.drop i) (b.drop k) le = b.getD k 0 :: List.merge (a.drop i) (b.drop (k + 1)) le := by
  rw [List.drop_eq_nil_of_le hi, List.nil_merge, List.nil_merge, drop_getD hy]
theorem cmpH_le {x y : Nat} : cmpH x y ≤ 0 ↔ x ≤ y := by unfold cmpH; split; omega; split <;> omega

end Go.Proofs.Ytgoooilgmabkmaa
namespace Go.Proofs.Ytgoooilgmabkmaa
open Go Go.Sl
set_option linter.unusedVariables false
set_option linter.unusedSimpArgs false
set_option maxRecDepth 100000

end Go.Proofs.Ytgoooilgmabkmaa
namespace Go.Proofs.Ytgoooilgmabkmaa
open Go Go.Sl
set_option linter.unusedVariables false
set_option linter.unusedSimpArgs false
set_option maxRecDepth 100000

end Go.Proofs.Ytgoooilgmabkmaa
namespace Go.Proofs.Ytgoooilgmabkmaa
open Go Go.Sl
set_option linter.unusedVariables false
set_option linter.unusedSimpArgs false
set_option maxRecDepth 100000

def TrySortF_ren : Go.Shelf.Ren := ⟨fun | 6 => 85 | 15 => 62 | 14 => 97 | 28 => 82 | 29 => 83 | 20 => 105 | 21 => 106 | 22 => 107 | 23 => 108 | 24 => 109 | 25 => 110 | 26 => 111 | 27 => 112 | 46 => 117 | 47 => 92 | 48 => 93 | 49 => 118 | 50 => 119 | 57 => 137 | n => n, fun | 22 => 32 | 24 => 31 | 25 => 41 | 3 => 3 | 39 => 119 | 0 => 0 | 53 => 151 | 55 => 101 | 4 => 4 | 46 => 144 | 45 => 143 | 50 => 99 | 5 => 5 | 9 => 9 | 66 => 156 | 70 => 160 | 76 => 177 | 77 => 178 | n => n, fun | n => n⟩
theorem TrySortF : Go.Proofs.SlLaysF0.n6 Try.prog TrySortF_ren :=
  { mixed := by kernel_rfl,
    f6 := ⟨"slices.SortFunc[[]pleach/api.Hash,pleach/api.Hash]", by decide, Try.func85.trans (congrArg some (by kernel_rfl))⟩,
    f14 := ⟨"slices.pdqsortCmpFunc[pleach/api.Hash]", by decide, Try.func97.trans (congrArg some (by kernel_rfl))⟩,
    f15 := Try.func62.trans (congrArg some (by kernel_rfl)),
    f20 := ⟨"slices.insertionSortCmpFunc[pleach/api.Hash]", by decide, Try.func105.trans (congrArg some (by kernel_rfl))⟩,
    f21 := ⟨"slices.heapSortCmpFunc[pleach/api.Hash]", by decide, Try.func106.trans (congrArg some (by kernel_rfl))⟩,
    f22 := ⟨"slices.breakPatternsCmpFunc[pleach/api.Hash]", by decide, Try.func107.trans (congrArg some (by kernel_rfl))⟩,
    f23 := ⟨"slices.choosePivotCmpFunc[pleach/api.Hash]", by decide, Try.func108.trans (congrArg some (by kernel_rfl))⟩,
    f24 := ⟨"slices.reverseRangeCmpFunc[pleach/api.Hash]", by decide, Try.func109.trans (congrArg some (by kernel_rfl))⟩,
    f25 := ⟨"slices.partialInsertionSortCmpFunc[pleach/api.Hash]", by decide, Try.func110.trans (congrArg some (by kernel_rfl))⟩,
    f26 := ⟨"slices.partitionEqualCmpFunc[pleach/api.Hash]", by decide, Try.func111.trans (congrArg some (by kernel_rfl))⟩,
    f27 := ⟨"slices.partitionCmpFunc[pleach/api.Hash]", by decide, Try.func112.trans (congrArg some (by kernel_rfl))⟩,
    f28 := Try.func82.trans (congrArg some (by kernel_rfl)),
    f29 := Try.func83.trans (congrArg some (by kernel_rfl)),
    f46 := ⟨"slices.siftDownCmpFunc[pleach/api.Hash]", by decide, Try.func117.trans (congrArg some (by kernel_rfl))⟩,
    f47 := Try.func92.trans (congrArg some (by kernel_rfl)),
    f48 := Try.func93.trans (congrArg some (by kernel_rfl)),
    f49 := ⟨"slices.medianAdjacentCmpFunc[pleach/api.Hash]", by decide, Try.func118.trans (congrArg some (by kernel_rfl))⟩,
    f50 := ⟨"slices.medianCmpFunc[pleach/api.Hash]", by decide, Try.func119.trans (congrArg some (by kernel_rfl))⟩,
    f57 := ⟨"slices.order2CmpFunc[pleach/api.Hash]", by decide, Try.func137.trans (congrArg some (by kernel_rfl))⟩,
    t0 := Try.underlying0,
    a0 := Try.isAgg0,
    z0 := Try.sizeOf0,
    v0 := Try.zeroValue0,
    t3 := Try.underlying3,
    a3 := Try.isAgg3,
    z3 := Try.sizeOf3,
    v3 := Try.zeroValue3,
    t4 := Try.underlying4,
    a4 := Try.isAgg4,
    z4 := Try.sizeOf4,
    v4 := Try.zeroValue4,
    t5 := Try.underlying5,
    a5 := Try.isAgg5,
    z5 := Try.sizeOf5,
    v5 := Try.zeroValue5,
    t9 := Try.underlying9,
    a9 := Try.isAgg9,
    z9 := Try.sizeOf9,
    v9 := Try.zeroValue9,
    t22 := Try.underlying32,
    a22 := Try.isAgg32,
    z22 := Try.sizeOf32,
    v22 := Try.zeroValue32,
    t25 := Try.underlying41,
    a25 := Try.isAgg41,
    z25 := Try.sizeOf41,
    v25 := Try.zeroValue41,
    t39 := Try.underlying119,
    a39 := Try.isAgg119,
    z39 := Try.sizeOf119,
    v39 := Try.zeroValue119,
    t45 := Try.underlying143,
    a45 := Try.isAgg143,
    z45 := Try.sizeOf143,
    v45 := Try.zeroValue143,
    t46 := Try.underlying144,
    a46 := Try.isAgg144,
    z46 := Try.sizeOf144,
    v46 := Try.zeroValue144,
    t50 := Try.underlying99,
    a50 := Try.isAgg99,
    z50 := Try.sizeOf99,
    v50 := Try.zeroValue99,
    t53 := Try.underlying151,
    a53 := Try.isAgg151,
    z53 := Try.sizeOf151,
    v53 := Try.zeroValue151,
    t55 := Try.underlying101,
    a55 := Try.isAgg101,
    z55 := Try.sizeOf101,
    v55 := Try.zeroValue101,
    t66 := Try.underlying156,
    a66 := Try.isAgg156,
    z66 := Try.sizeOf156,
    v66 := Try.zeroValue156,
    t70 := Try.underlying160,
    a70 := Try.isAgg160,
    z70 := Try.sizeOf160,
    v70 := Try.zeroValue160,
    t76 := Try.underlying177,
    a76 := Try.isAgg177,
    z76 := Try.sizeOf177,
    v76 := Try.zeroValue177,
    t77 := Try.underlying178,
    a77 := Try.isAgg178,
    z77 := Try.sizeOf178,
    v77 := Try.zeroValue178 }
/-- a hash's number -/
abbrev Hn := { n : Nat // IsH n }
instance : Inhabited Hn := ⟨⟨0, isH0⟩⟩
def hnEnc (x : Hn) : List Value := hashCells x.1
def hnCmp (x y : Hn) : Int := cmpH x.1 y.1
def toHn : (l : List Nat) → (∀ x ∈ l, IsH x) → List Hn
  | [], _ => []
  | x :: l, h => ⟨x, h x (by simp)⟩ :: toHn l (fun y hy => h y (by simp [hy]))
theorem toHn_val : ∀ (l : List Nat) (h : ∀ x ∈ l, IsH x), (toHn l h).map (·.1) = l
  | [], _ => rfl
  | x :: l, h => by simp only [toHn, List.map_cons, toHn_val l]
theorem hn_lt (x y : Hn) : Go.Proofs.ltOf hnCmp x y = decide (x.1 < y.1) := by
  unfold Go.Proofs.ltOf hnCmp
  exact decide_eq_decide.2 cmpH_lt
theorem hn_swo : Go.Sort.SWO (Go.Proofs.ltOf hnCmp) where
  irrefl x := by rw [hn_lt]; simp
  trans x y z h1 h2 := by rw [hn_lt] at *; simp at *; omega
  ntrans x y z h1 h2 := by rw [hn_lt] at *; simp at *; omega
/-- hashes in order -/
def sortN (l : List Nat) : List Nat := l.mergeSort fun x y => decide (x ≤ y)
theorem sortN_perm (l : List Nat) : (sortN l).Perm l := List.mergeSort_perm _ _
theorem sortN_len (l : List Nat) : (sortN l).length = l.length := (sortN_perm l).length_eq
theorem sortN_sorted (l : List Nat) : (sortN l).Pairwise (· ≤ ·) := by
  refine List.Pairwise.imp (fun h => of_decide_eq_true h) (List.pairwise_mergeSort (le := fun x y : Nat => decide (x ≤ y)) ?_ ?_ _)
  · intro a b c h1 h2
    have h1 := of_decide_eq_true h1
    have h2 := of_decide_eq_true h2
    exact decide_eq_true (Nat.le_trans h1 h2)
  · intro a b
    simp only [Bool.or_eq_true, decide_eq_true_eq]
    omega
theorem sortN_hn (l : List Nat) (h : ∀ x ∈ l, IsH x) : ((toHn l h).mergeSort fun x y => !(Go.Proofs.ltOf hnCmp) y x).map (·.1) = sortN l := by
  rw [List.map_mergeSort (s := fun x y : Nat => decide (x ≤ y))]
  · rw [toHn_val]; rfl
  · intro a _ b _
    rw [hn_lt, Bool.eq_iff_iff]
    simp
/-- a function that only reads, at the whole of a world: it draws, it lays blocks, it turns nothing -/
theorem grown_of {W W' : World} (he : Env W W') (hb : ∀ (k : Nat) (o : Obj), W.heap[k]? = some o → W'.heap[k]? = some o) : ∃ q os', W' = Go.Sort.grow (W.drewN q) os' := by
  refine ⟨W'.drawn - W.drawn, W'.heap.extract W.heap.size W'.heap.size, ?_⟩
  have hsz : W.heap.size ≤ W'.heap.size := by
    refine Classical.byContradiction fun hc => ?_
    have h1 : W.heap[W'.heap.size]? = some (W.heap[W'.heap.size]'(by omega)) := Array.getElem?_eq_getElem (by omega)
    have h2 := hb _ _ h1
    have h3 := (Array.getElem?_eq_some_iff.1 h2).1
    omega
  have hh : W'.heap = W.heap ++ W'.heap.extract W.heap.size W'.heap.size := by
    apply Array.ext_getElem?
    intro i
    rw [Array.getElem?_append]
    split
    · rename_i hi
      rw [Array.getElem?_eq_getElem hi]
      exact hb _ _ (Array.getElem?_eq_getElem hi)
    · rename_i hi
      rw [Array.getElem?_extract]
      split
      · rw [show W.heap.size + (i - W.heap.size) = i by omega]
      · exact Array.getElem?_eq_none (by omega)
  obtain ⟨h1, h2, h3, h4⟩ := he
  show W' = { heap := W.heap ++ W'.heap.extract W.heap.size W'.heap.size, tape := W.tape, drawn := W.drawn + (W'.drawn - W.drawn), os := W.os, output := W.output }
  rw [← hh, ← h1, ← h2, ← h3, show W.drawn + (W'.drawn - W.drawn) = W'.drawn by omega]
theorem cmp_lays (blk off size : Nat) (w : World) : Go.Proofs.CmpLays Try.prog 86 #[] hnEnc 32 hnCmp blk off size w := by
  intro m os dk _ x y
  generalize Go.Proofs.sortWorldK hnEnc 32 w blk off m dk os = W
  refine (sha_Compare (full W) x.1 y.1 x.2 y.2 [] W (by simpa using full_st W)).mono ?_
  rintro e W' ⟨v, σ', H', rfl, ⟨rfl, rfl, rfl⟩, hle, hs⟩
  exact ⟨rfl, grown_of hs.env (fun k o h => hs.view k o h)⟩
theorem flatK_list (d : List Hn) : (Go.Sort.flatK hnEnc 32 d.toArray).toList = (d.map hnEnc).flatten := by
  have hlen : ∀ v ∈ d.map hnEnc, v.length = 32 := by
    intro v hv
    obtain ⟨x, _, rfl⟩ := List.mem_map.1 hv
    rfl
  have hfl : ((d.map hnEnc).flatten).length = d.length * 32 := by
    have : ∀ (l : List Hn), ((l.map hnEnc).flatten).length = l.length * 32 := by
      intro l
      induction l with
      | nil => rfl
      | cons x l ih =>
        rw [List.map_cons, List.flatten_cons, List.length_append, ih, List.length_cons]
        have : (hnEnc x).length = 32 := rfl
        omega
    exact this d
  apply List.ext_getElem?
  intro t
  by_cases ht : t < d.length * 32
  · have hi : t / 32 < d.length := by omega
    have hx : (d.map hnEnc)[t / 32]? = some (hnEnc d[t / 32]) := by rw [List.getElem?_map, List.getElem?_eq_getElem hi]; rfl
    have hs := flatten_sub (d.map hnEnc) (t / 32) _ hlen hx
    have hm : t % 32 < (hnEnc d[t / 32]).length := by have : (hnEnc d[t / 32]).length = 32 := rfl; omega
    have h1 := hs (t % 32) _ (List.getElem?_eq_getElem hm)
    rw [show t / 32 * 32 + t % 32 = t by omega] at h1
    rw [h1]
    have hsz : t < (Go.Sort.flatK hnEnc 32 d.toArray).size := by simpa using ht
    rw [List.getElem?_eq_getElem (by simpa using ht)]
    congr 1
    have h2 := Go.Sort.get_flatK hnEnc 32 d.toArray t (by simpa using ht)
    rw [getElem!_pos _ t hsz] at h2
    rw [Array.getElem_toList, h2]
    have h3 : d.toArray[t / 32]! = d[t / 32] := by rw [getElem!_pos _ (t / 32) (by simpa using hi)]; simp
    rw [h3, getElem!_pos _ (t % 32) hm]
  · rw [List.getElem?_eq_none (by simpa using ht), List.getElem?_eq_none (by omega)]
theorem St.growF {σ : View} {H : HList} {w w' : World} {os : Array Obj} (h : St σ H w) (hw : w'.heap = w.heap ++ os) (he : Env w w') : St σ H w' := by
  have key : ∀ b o, w.heap[b]? = some o → w'.heap[b]? = some o := fun b o hb => by
    rw [hw, Array.getElem?_append_left (Array.getElem?_eq_some_iff.1 hb).1]; exact hb
  exact ⟨h.envOf he, fun b o ho => key _ _ (h.view b o ho), fun p hp => key _ _ (h.own p hp), h.apart, h.nodup⟩
/-- slices.SortFunc of hashes -/
theorem slices_SortFunc (σ : View) (sv : Value) (acc : List Nat) (hl : HList) (hso : SlO σ eHash 31 32 sv acc hl) (hb : acc.length ≤ 4194304) :
    Tri Try.prog 85 #[sv, .func (.func 86) #[] #[]] σ hl (fun v σ' H' => SlO σ eHash 31 32 sv (sortN acc) H' ∧ σ' = σ) := by
  intro Hr w hs
  by_cases h0 : acc.length = 0
  · obtain ⟨p, cap, rfl, _⟩ := hso.shape
    have ha := List.eq_nil_of_length_eq_zero h0
    subst ha
    refine (Go.Proofs.AnyF.slices_SortFunc_none TrySortF p cap _ w).mono ?_
    rintro e w' ⟨rfl, rfl⟩
    exact ⟨_, σ, hl, rfl, ⟨by rw [show sortN [] = [] from List.eq_nil_of_length_eq_zero (by rw [sortN_len]; rfl)]; exact hso, rfl⟩, View.le_refl _, hs⟩
  · obtain ⟨b, cap, junk, vss, rfl, rfl, hcap, hjl, hel⟩ := hso.at (by omega)
    have hok : ∀ x ∈ acc, IsH x := fun x hx => by
      obtain ⟨i, hi⟩ := List.getElem?_of_mem hx
      obtain ⟨vs, _, _, _, _, h⟩ := hel.2 i x hi
      exact h
    have hvs : vss = (toHn acc hok).map hnEnc := by
      have h1 : vss = acc.map hashCells := by
        apply List.ext_getElem?
        intro i
        rw [List.getElem?_map]
        by_cases hi : i < acc.length
        · have hx : acc[i]? = some acc[i] := List.getElem?_eq_getElem hi
          obtain ⟨vs, h1, _, _, rfl, _⟩ := hel.2 i _ hx
          rw [h1, hx]; rfl
        · rw [List.getElem?_eq_none (by rw [hel.1]; omega), List.getElem?_eq_none (by omega)]; rfl
      rw [h1]
      conv => lhs; rw [← toHn_val acc hok]
      rw [List.map_map]; rfl
    have hdl : (toHn acc hok).length = acc.length := by have := congrArg List.length (toHn_val acc hok); simpa using this
    have hown := hs.own (b, rowO 31 (vss.flatten ++ junk)) (by simp)
    have hfl : vss.flatten.length = acc.length * 32 := hel.flat
    have hF : (Go.Sort.flatK hnEnc 32 (toHn acc hok).toArray).toList = vss.flatten := by rw [flatK_list, hvs]
    have hH : Go.Sort.HoldsK hnEnc 32 w b 0 (toHn acc hok).toArray := by
      intro j hj
      have hj' : j < acc.length * 32 := by simpa [hdl] using hj
      refine ⟨?_, ?_⟩
      · have hx : vss.flatten[j]? = some (vss.flatten[j]'(by omega)) := List.getElem?_eq_getElem (by omega)
        have h1 : w.cell? ⟨b, 0 + j, none⟩ = some (vss.flatten[j]'(by omega)) := by
          have := (Rd.own1 (σ := σ) (off := 0 + j) (v := vss.flatten[j]'(by omega)) (T := 31) (l := vss.flatten ++ junk) (H := [(b, rowO 31 (vss.flatten ++ junk))] ++ Hr) (b := b) (by simp) (by rw [Nat.zero_add, List.getElem?_append_left (by omega)]; exact hx)).cell hs 0 _ rfl
          simpa using this
        rw [h1]
        congr 1
        show _ = (Go.Sort.flatK hnEnc 32 (toHn acc hok).toArray)[j]!
        rw [getElem!_pos _ j hj]
        have := hF
        simp only [← this, Array.getElem_toList]
      · simp [World.frozen?, hown, rowO]
    have hlt : b < w.heap.size := (Array.getElem?_eq_some_iff.1 hown).1
    have hsz : (toHn acc hok).toArray.size = acc.length := by simpa using hdl
    have := Go.Proofs.AnyQ.slices_SortFunc_total TrySortF 32 Try.isAgg31 Try.sizeOf31 hnEnc (fun _ => rfl) (fun x v hv => by
      have h1 : (hashCells x.1).all (·.oneCell') = true := rfl
      exact List.all_eq_true.1 h1 v hv) hnCmp hn_swo 86 #[] b 0 cap (toHn acc hok).toArray w Try.call86 (cmp_lays b 0 _ w) hH hlt (by rw [hsz]; omega) (fun x y h1 h2 => by
      rw [hn_lt] at h1 h2
      have h1 := of_decide_eq_false h1
      have h2 := of_decide_eq_false h2
      exact Subtype.ext (by omega))
    rw [hsz] at this
    refine this.mono ?_
    rintro e w' ⟨rfl, n, os, rfl⟩
    obtain ⟨srt, hsrt⟩ : ∃ srt, srt = (toHn acc hok).mergeSort fun x y => !(Go.Proofs.ltOf hnCmp) y x := ⟨_, rfl⟩
    have hsN : srt.map (·.1) = sortN acc := by rw [hsrt]; exact sortN_hn acc hok
    rw [show ((toHn acc hok).toArray.toList.mergeSort fun x y => !(Go.Proofs.ltOf hnCmp) y x) = srt from hsrt.symm]
    have hsl : srt.length = acc.length := by rw [hsrt, List.length_mergeSort]; exact hdl
    have hcells : srt.map hnEnc = (sortN acc).map hashCells := by rw [← hsN, List.map_map]; rfl
    have hfl2 : ((sortN acc).map hashCells).flatten.length = acc.length * 32 := by
      rw [← hcells]
      have h1 := congrArg List.length (flatK_list srt)
      rw [← h1]; simp [hsl]
    have hnew : SlO σ eHash 31 32 (.slice (some ⟨b, 0, none⟩) acc.length cap) (sortN acc) [(b, rowO 31 (((sortN acc).map hashCells).flatten ++ junk))] := by
      refine ⟨(sortN acc).map hashCells, ⟨by rw [hfl2, sortN_len], .inr ⟨b, cap, junk, by rw [sortN_len], rfl, by rw [sortN_len]; exact hjl, by rw [sortN_len]; exact hcap⟩⟩, by simp, fun i x hx => ⟨hashCells x, by simp [hx], rfl, rfl, rfl, hok x ((sortN_perm acc).mem_iff.1 (List.mem_of_getElem? hx))⟩⟩
    refine ⟨_, σ, _, rfl, ⟨hnew, rfl⟩, View.le_refl _, ?_⟩
    have hF2 : (Go.Sort.flatK hnEnc 32 srt.toArray).toList = ((sortN acc).map hashCells).flatten := by rw [flatK_list, hcells]
    have h1 : St σ ([(b, rowO 31 (((sortN acc).map hashCells).flatten ++ junk))] ++ Hr) (Go.Sort.putRowK hnEnc 32 (Go.Sort.ahead w n) b 0 srt.toArray) := by
      have hwo : (Go.Sort.ahead w n).heap = w.heap := rfl
      refine hs.part (b := b) (o := rowO 31 (vss.flatten ++ junk)) (o' := rowO 31 (((sortN acc).map hashCells).flatten ++ junk)) Part.one ?_ ?_ ⟨rfl, rfl, rfl, Nat.le_add_right _ _⟩
      · show ((Go.Sort.ahead w n).heap.modify b _)[b]? = _
        rw [hwo, Array.getElem?_modify, if_pos rfl, hown]
        simp only [Option.map_some, rowO, Go.Sort.onCells]
        congr 2
        apply Array.ext'
        simp only [Go.Sort.putCells, Array.toList_mapIdx]
        apply List.ext_getElem?
        intro k
        simp only [List.getElem?_mapIdx, Nat.zero_le, true_and, Nat.zero_add, Nat.sub_zero]
        have hfs : (Go.Sort.flatK hnEnc 32 srt.toArray).size = acc.length * 32 := by simp [hsl]
        by_cases hk : k < acc.length * 32
        · rw [List.getElem?_append_left (by omega), List.getElem?_append_left (by omega), List.getElem?_eq_getElem (by omega)]
          simp only [Option.map_some]
          rw [if_pos (by omega)]
          have h2 : (Go.Sort.flatK hnEnc 32 srt.toArray)[k]! = (Go.Sort.flatK hnEnc 32 srt.toArray)[k]'(by omega) := getElem!_pos _ k (by omega)
          show some (id (Go.Sort.flatK hnEnc 32 srt.toArray)[k]!) = _
          rw [h2, ← hF2, List.getElem?_eq_getElem (by simp; omega)]
          simp
        · rw [List.getElem?_append_right (by omega), List.getElem?_append_right (by omega), hfl, hfl2]
          cases junk[k - acc.length * 32]? with
          | none => rfl
          | some y => simp only [Option.map_some]; rw [if_neg (by omega)]
      · intro c hc
        show ((Go.Sort.ahead w n).heap.modify b _)[c]? = _
        rw [hwo, Array.getElem?_modify, if_neg (Ne.symm hc)]
    exact St.growF h1 rfl ⟨rfl, rfl, rfl, Nat.le_refl _⟩
end Go.Proofs.Ytgoooilgmabkmaa
namespace Go.Proofs.Ytgoooilgmabkmaa
open Go Go.Sl
set_option linter.unusedVariables false
set_option linter.unusedSimpArgs false
set_option maxRecDepth 100000

theorem rises_lt {l : List Nat} (h : Rises l) {i j a b : Nat} (hij : i < j) (hi : l[i]? = some a) (hj : l[j]? = some b) : a < b := by
  obtain ⟨h1, e1⟩ := List.getElem?_eq_some_iff.1 hi
  obtain ⟨h2, e2⟩ := List.getElem?_eq_some_iff.1 hj
  have := (List.pairwise_iff_getElem.1 h) i j h1 h2 hij
  rw [e1, e2] at this; exact this
theorem nodup_rises : ∀ {l : List Nat}, l.Nodup → l.Pairwise (· ≤ ·) → Rises l
  | [], _, _ => List.Pairwise.nil
  | a :: l, hn, h => by
    rw [List.nodup_cons] at hn
    rw [List.pairwise_cons] at h
    refine List.pairwise_cons.2 ⟨fun b hb => ?_, nodup_rises hn.2 h.2⟩
    have h1 := h.1 b hb
    have : a ≠ b := fun e => hn.1 (e ▸ hb)
    omega
theorem sortN_rises {l : List Nat} (h : l.Nodup) : Rises (sortN l) := nodup_rises ((sortN_perm l).nodup_iff.2 h) (sortN_sorted l)
theorem rises_ext : ∀ (a b : List Nat), Rises a → Rises b → (∀ x, x ∈ a ↔ x ∈ b) → a = b
  | [], [], _, _, _ => rfl
  | [], y :: b, _, _, h => by have := (h y).2 (by simp); simp at this
  | x :: a, [], _, _, h => by have := (h x).1 (by simp); simp at this
  | x :: a, y :: b, ha, hb, h => by
    have a1 := (List.pairwise_cons.1 ha).1
    have b1 := (List.pairwise_cons.1 hb).1
    have e : x = y := by
      have h1 := (h x).1 (by simp)
      have h2 := (h y).2 (by simp)
      rcases List.mem_cons.1 h1 with h1 | h1
      · exact h1
      · rcases List.mem_cons.1 h2 with h2 | h2
        · exact h2.symm
        · have := a1 y h2; have := b1 x h1; omega
    subst e
    rw [rises_ext a b (List.pairwise_cons.1 ha).2 (List.pairwise_cons.1 hb).2 fun z => ?_]
    have h3 := h z
    simp only [List.mem_cons] at h3
    constructor
    · intro hz
      rcases h3.1 (.inr hz) with rfl | h4
      · have := a1 z hz; omega
      · exact h4
    · intro hz
      rcases h3.2 (.inr hz) with rfl | h4
      · have := b1 z hz; omega
      · exact h4
theorem SlE.clip {α : Type} {σ : View} {E : Enc α} {sz byt : Nat} {a : Option Addr} {n cap : Nat} {l : List α} (h : SlE σ E sz byt (.slice a n cap) l) : SlE σ E sz byt (.slice a n n) l := by
  obtain ⟨a', cap', h1, h2, h3, h4⟩ := h
  cases h1
  exact ⟨_, _, rfl, Nat.le_refl _, h3, h4⟩

theorem slices_Clone (σ : View) (sv : Value) (acc : List Nat) (h : Hashes σ sv acc) (hb : acc.length ≤ 4194304) :
    Tri Try.prog 84 #[sv] σ [] (fun v σ' H' => (∃ h, SlO σ eHash 31 32 v acc h ∧ H' = h) ∧ σ' = σ) := by
  have h' := h
  obtain ⟨sa, sc, rfl, hsc, hsb⟩ := h.shape
  obtain ⟨sb, soff, hes, _⟩ := h'.rds
  refine Tri.of_body [(0, .slice sa acc.length sc)] Try.func84 rfl Try.ntmps84 (by simp) rfl (fun Hr => ?_)
  rw [List.nil_append]
  refine WC.seq ?_
  refine WC.region ?_
  refine WL.pur (Pur.assign rfl) ?_
  refine WL.nil ?_
  refine WQ.thn ?_
  refine WC.seq ?_
  refine WC.seq ?_
  refine WC.region ?_
  refine WL.pur (Pur.move rfl) ?_
  refine' WL.pur (Pur.bin rfl rfl ?h1_0) ?k1
  case h1_0 => exact Bin.eqSl isSlice_32
  refine WL.nil ?_
  refine WQ.thn ?_
  first | refine WC.cond rfl (fun hc0 => ?_) (fun hc0 => ?_) | refine WC.condB rfl (fun hc0 => ?_) (fun hc0 => ?_)
  · subst hc0
    have ha : acc.length = 0 := by
      refine Classical.byContradiction fun hc => ?_
      have := hes (by omega)
      cases this
    obtain rfl := List.eq_nil_of_length_eq_zero ha
    refine WC.seq ?_
    refine WC.region ?_
    refine WL.pur (Pur.assign rfl) ?_
    refine WL.nil ?_
    refine WQ.thn ?_
    refine WC.ret ?_
    refine WQ.thn_ret ?_
    refine WQ.ret1 Try.results84 rfl [] zsL (View.le_refl _) ?_
    exact ⟨⟨_, SlO.nil, rfl⟩, rfl⟩
  · refine WC.skip ?_
    refine WQ.thn ?_
    refine WC.seq ?_
    refine WC.region ?_
    refine WL.new (New.buildSlice0 sl_32) (fun b5 => ?_)
    refine WL.pur (Pur.move rfl) ?_
    refine WL.any (Any.pushAll (E := eHash) (H1 := []) (H2 := Hr) sl_32 zc_31 rfl by_31 rfl rfl (SlO.row (b := b5) (ElR.nil (σ := σ) (E := eHash) (sz := 32))) h' rfl (by simp only [List.length_nil]; omega) (by simp only [List.length_nil]; omega)) ?_
    rintro v7 σ _ ⟨h7, hs7, rfl, rfl⟩ _
    rw [List.nil_append] at hs7
    refine WL.pur (Pur.assign rfl) ?_
    refine WL.nil ?_
    refine WQ.thn ?_
    refine WC.ret ?_
    refine WQ.ret1 Try.results84 rfl h7 zsL (View.le_refl _) ?_
    exact ⟨⟨_, hs7, rfl⟩, rfl⟩

theorem slices_Compact (σ : View) (sv : Value) (S : List Nat) (h : Hashes σ sv S) (hr : Rises S) :
    TriP Try.prog 88 #[sv] σ sv := by
  have h' := h
  obtain ⟨sa, sc, rfl, hsc, hsb⟩ := h.shape
  obtain ⟨sb, soff, hes, hsat⟩ := h'.rds
  refine Tri.of_body [(0, .slice sa S.length sc)] Try.func88 rfl Try.ntmps88 (by simp) rfl (fun Hr => ?_)
  rw [List.nil_append]
  refine WC.seq ?_
  refine WC.region ?_
  refine WL.pur (Pur.assign rfl) ?_
  refine WL.nil ?_
  refine WQ.thn ?_
  refine WC.seq ?_
  refine WC.seq ?_
  refine WC.region ?_
  refine WL.pur (Pur.move rfl) ?_
  refine WL.pur (Pur.len rfl isSlice_32) ?_
  refine' WL.pur (Pur.bin rfl rfl ?h1_0) ?k1
  case h1_0 => first | exact Bin.ltN (b := 2) | exact Bin.ltI | exact Bin.ltS
  refine WL.nil ?_
  refine WQ.thn ?_
  first | refine WC.cond rfl (fun hc0 => ?_) (fun hc0 => ?_) | refine WC.condB rfl (fun hc0 => ?_) (fun hc0 => ?_)
  · refine WC.seq ?_
    refine WC.region ?_
    refine WL.pur (Pur.move rfl) ?_
    refine WL.pur (Pur.assign rfl) ?_
    refine WL.nil ?_
    refine WQ.thn ?_
    refine WC.ret ?_
    refine WQ.thn_ret ?_
    refine WQ.ret1 Try.results88 rfl [] zsL (View.le_refl _) ?_
    refine ⟨?_, rfl, rfl⟩
    rfl
  · refine WC.skip ?_
    refine WQ.thn ?_
    refine WC.seq ?_
    refine WC.seq ?_
    refine WC.region ?_
    refine WL.pur (Pur.assign rfl) ?_
    refine WL.nil ?_
    refine WQ.thn ?_
    refine WC.block ?_
    refine WC.loop (fun j m σ' H' => ∃ i : Nat, j = S.length - i ∧ 1 ≤ i ∧ i ≤ S.length ∧ m = [(0, .slice sa S.length sc), (3, .int .i64 (i : Int))] ∧ σ' = σ ∧ H' = Hr) ⟨1, rfl, by omega, by omega, rfl, rfl, rfl⟩ zcV zsL ?_
    rintro _ _ σ Hr ⟨i, rfl, hi1, hi, rfl, rfl, rfl⟩
    refine WC.seq ?_
    refine WC.seq ?_
    refine WC.region ?_
    refine WL.pur (Pur.move rfl) ?_
    refine WL.pur (Pur.move rfl) ?_
    refine WL.pur (Pur.len rfl isSlice_32) ?_
    refine' WL.pur (Pur.bin rfl rfl ?h2_0) ?k2
    case h2_0 => first | exact Bin.ltN | exact Bin.ltI | exact Bin.ltS
    refine WL.nil ?_
    refine WQ.thn ?_
    first | refine WC.cond rfl (fun hc1 => ?_) (fun hc1 => ?_) | refine WC.condB rfl (fun hc1 => ?_) (fun hc1 => ?_)
    · obtain ⟨x, hx⟩ : ∃ x, S[i]? = some x := ⟨_, List.getElem?_eq_getElem (by omega)⟩
      obtain ⟨y, hy⟩ : ∃ y, S[i - 1]? = some y := ⟨_, List.getElem?_eq_getElem (by omega)⟩
      obtain ⟨vx, _, _, ⟨rfl, hxo⟩, hrx⟩ := hsat i x hx
      obtain ⟨vy, _, _, ⟨rfl, hyo⟩, hry⟩ := hsat (i - 1) y hy
      refine WC.skip ?_
      refine WQ.thn ?_
      refine WC.seq ?_
      refine WC.block ?_
      refine WC.seq ?_
      refine WC.drawH 10 10 mixed (by kernel_rfl) rfl ?_
      refine SA.take 0 (by kernel_rfl) rfl rfl rfl (Wanted.plain rfl) zsL (View.le_refl _) (Pur.move rfl) ?_
      refine SA.take 1 (by kernel_rfl) rfl rfl rfl (Wanted.plain rfl) zsL (View.le_refl _) (Pur.move rfl) ?_
      refine' SA.take 2 (by kernel_rfl) rfl rfl rfl (Wanted.plain rfl) zsL (View.le_refl _) (Pur.indexAddr (eqA (hes (by omega))) rfl sl_32 ?h3_0) ?k3
      case h3_0 => omega
      refine' SA.take 3 (by kernel_rfl) rfl rfl rfl (Wanted.plain rfl) zsL (View.le_refl _) (Pur.loadN rfl ty_31 ?h4_0 ?h4_1) ?k4
      case h4_0 => exact RdV.rd hrx
      case h4_1 => first | rfl | assumption
      refine SA.take 4 (by kernel_rfl) rfl rfl rfl (Wanted.plain rfl) zsL (View.le_refl _) (Pur.move rfl) ?_
      refine SA.take 5 (by kernel_rfl) rfl rfl rfl (Wanted.plain rfl) zsL (View.le_refl _) (Pur.move rfl) ?_
      refine' SA.take 6 (by kernel_rfl) rfl rfl rfl (Wanted.plain rfl) zsL (View.le_refl _) (Pur.bin rfl rfl ?h5_0) ?k5
      case h5_0 => first | (refine Bin.subN (b := 1) ?_ ?_ <;> omega) | (refine Bin.subI ?_; omega)
      refine' SA.take 7 (by kernel_rfl) rfl rfl rfl (Wanted.plain rfl) zsL (View.le_refl _) (Pur.indexAddr (eqA (hes (by omega))) rfl sl_32 ?h6_0) ?k6
      case h6_0 => omega
      refine' SA.take 8 (by kernel_rfl) rfl rfl rfl (Wanted.plain rfl) zsL (View.le_refl _) (Pur.loadN rfl ty_31 ?h7_0 ?h7_1) ?k7
      case h7_0 => exact RdV.rd hry
      case h7_1 => first | rfl | assumption
      refine' SA.take 9 (by kernel_rfl) rfl rfl rfl (Wanted.plain rfl) zsL (View.le_refl _) (Pur.bin rfl rfl ?h8_0) ?k8
      case h8_0 => (refine Bin.eqH isHash_31 ?_ ?_ <;> assumption)
      refine SA.done (by kernel_rfl) ?_
      refine WQ.thn ?_
      first | refine WC.cond rfl (fun hc2 => ?_) (fun hc2 => ?_) | refine WC.condB rfl (fun hc2 => ?_) (fun hc2 => ?_)
      · exact absurd hc2 (Nat.ne_of_gt (rises_lt hr (show i - 1 < i by omega) hy hx))
      · refine WC.skip ?_
        refine WQ.blk ?_
        refine WQ.thn ?_
        refine WC.region ?_
        refine WL.pur (Pur.move rfl) ?_
        refine' WL.pur (Pur.bin rfl rfl ?h9_0) ?k9
        case h9_0 => first | (refine Bin.addN (b := 1) ?_; omega) | (refine Bin.addI ?_; omega)
        refine WL.pur (Pur.assign rfl) ?_
        refine WL.nil ?_
        refine WQ.back _ ⟨i + 1, rfl, by omega, by omega, rfl, rfl, rfl⟩ (by omega) zcV zsL
    · refine WC.exit ?_
      refine WQ.thn_exit ?_
      refine WQ.back_exit ?_
      refine WQ.blk_here ?_
      refine WQ.thn ?_
      refine WC.seq ?_
      refine WC.region ?_
      refine WL.pur (Pur.move rfl) ?_
      refine WL.pur (Pur.assign rfl) ?_
      refine WL.nil ?_
      refine WQ.thn ?_
      refine WC.ret ?_
      refine WQ.ret1 Try.results88 rfl [] zsL (View.le_refl _) ?_
      refine ⟨?_, rfl, rfl⟩
      rfl

theorem slices_Clip (σ : View) (a : Option Addr) (n cap : Nat) (hn : n ≤ cap) :
    TriP Try.prog 87 #[.slice a n cap] σ (.slice a n n) := by
  refine Tri.of_body [(0, .slice a n cap)] Try.func87 rfl Try.ntmps87 (by simp) rfl (fun Hr => ?_)
  rw [List.nil_append]
  refine WC.seq ?_
  refine WC.region ?_
  refine WL.pur (Pur.assign rfl) ?_
  refine WL.nil ?_
  refine WQ.thn ?_
  refine WC.seq ?_
  refine WC.region ?_
  refine WL.pur (Pur.move rfl) ?_
  refine WL.pur (Pur.move rfl) ?_
  refine WL.pur (Pur.len rfl isSlice_32) ?_
  refine WL.pur (Pur.move rfl) ?_
  refine WL.pur (Pur.len rfl isSlice_32) ?_
  refine WL.pur ((Pur.sliceF rfl rfl rfl sl_32 (Nat.le_refl _) hn)) ?_
  refine WL.pur (Pur.assign rfl) ?_
  refine WL.nil ?_
  refine WQ.thn ?_
  refine WC.ret ?_
  refine WQ.ret1 Try.results87 rfl [] zsL (View.le_refl _) ?_
  refine ⟨?_, rfl, rfl⟩
  rfl

theorem sha_Sort (σ : View) (lv : Value) (l : List Nat) (h : Hashes σ lv l) (hb : l.length ≤ 4096) (hn : l.Nodup) :
    Tri Try.prog 63 #[lv] σ [] (fun v σ' H' => Hashes σ' v (sortN l) ∧ H' = []) := by
  refine Tri.of_body [(0, lv)] Try.func63 rfl Try.ntmps63 (by simp) rfl (fun Hr => ?_)
  rw [List.nil_append]
  refine WC.seq ?_
  refine WC.region ?_
  refine WL.pur (Pur.assign rfl) ?_
  refine WL.nil ?_
  refine WQ.thn ?_
  refine WC.seq ?_
  refine WC.region ?_
  refine WL.pur (Pur.move rfl) ?_
  refine WL.call (H0 := []) (Hr := Hr) rfl Try.call84 (List.Perm.refl _) (slices_Clone _ _ l h (by omega)) ?_
  rintro v5 σ h5 ⟨⟨_, hs5, rfl⟩, rfl⟩ _
  refine WL.pur (Pur.assign rfl) ?_
  refine WL.nil ?_
  refine WQ.thn ?_
  refine WC.seq ?_
  refine WC.region ?_
  refine WL.pur (Pur.move rfl) ?_
  refine WL.call (H0 := h5) (Hr := Hr) rfl Try.call85 (List.Perm.refl _) (slices_SortFunc _ _ l h5 hs5 (by omega)) ?_
  rintro _ σ h6 ⟨hs6, rfl⟩ _
  refine WL.giveS (byt := 32) (H1 := []) (H2 := Hr) eHash_mono hs6 (by rw [sortN_len]; omega) rfl (fun σ1 hle1 hK => ?_)
  rw [List.nil_append]
  obtain ⟨ka, kc, rfl, hkc, hkb⟩ := hK.shape
  refine WL.nil ?_
  refine WQ.thn ?_
  refine WC.seq ?_
  refine WC.region ?_
  refine WL.pur (Pur.move rfl) ?_
  refine WL.callP rfl Try.call88 ((slices_Compact _ _ (sortN l) hK (sortN_rises hn))) ?_
  refine WL.callP rfl Try.call87 ((slices_Clip _ _ _ _ hkc)) ?_
  refine WL.pur (Pur.assign rfl) ?_
  refine WL.nil ?_
  refine WQ.thn ?_
  refine WC.ret ?_
  refine WQ.ret1 Try.results63 rfl [] zsL hle1 ?_
  exact ⟨SlE.clip hK, rfl⟩

end Go.Proofs.Ytgoooilgmabkmaa
namespace Go.Proofs.Ytgoooilgmabkmaa
open Go Go.Sl
set_option linter.unusedVariables false
set_option linter.unusedSimpArgs false
set_option maxRecDepth 100000

theorem past_Sees (σ : View) (pv : Value) (L : List EntD) (i j : Nat) (h : PastV σ pv L) (ho : OrdOk L) (hj : j < L.length) (hi : i ≤ 1000000) :
    TriP Try.prog 25 #[pv, .int .i64 (i : Int), .int .i64 (j : Int)] σ (.bool (decide (seesN L i j = true))) := by
  obtain ⟨b, mb, lv, sv, rfl, hr, hl, hm, hs⟩ := h
  obtain ⟨la, lc, rfl, hlc, hlb⟩ := hl.shape
  obtain ⟨sb, soff, sc, rfl, hsc, hsb, hat⟩ := hs.at (by simp; omega)
  have hlen : (List.range L.length).length = L.length := by simp
  obtain ⟨vs, _, _, ⟨wv, rfl, _, hw⟩, hwr⟩ := hat j j (by simp [hj])
  obtain ⟨wa, wc, rfl, hwc, hwb⟩ := hw.shape
  obtain ⟨wb, woff, hwe⟩ := addr_of hw
  have hwl := wordsOf_len L j
  have hask := wordN_ask ((rowsN L L.length).getD j 0) i
  rw [Nat.shiftRight_eq_div_pow] at hask
  have hdl := Nat.div_le_self (wordN ((rowsN L L.length).getD j 0) (i / 64)) (2 ^ (i % 64))
  refine Tri.of_body [(0, .pointer (some ⟨b, 0, none⟩)), (1, .int .i64 (i : Int)), (2, .int .i64 (j : Int))] Try.func25 rfl Try.ntmps25 (by simp) rfl (fun Hr => ?_)
  rw [List.nil_append]
  refine WC.seq ?_
  refine WC.region ?_
  refine WL.pur (Pur.assign rfl) ?_
  refine WL.nil ?_
  refine WQ.thn ?_
  refine WC.seq ?_
  refine WC.seq ?_
  refine WC.region ?_
  refine WL.pur (Pur.move rfl) ?_
  refine' WL.pur (Pur.bin rfl rfl ?h1_0) ?k1
  case h1_0 => first | exact Bin.ltN (b := 0) | exact Bin.ltI | exact Bin.ltS
  refine WL.pur (Pur.move rfl) ?_
  refine' WL.orp (u := 9) (t := 12) rfl ?h2_0 ?h2_1 ?h2_2 rfl ?k2
  case h2_0 =>
    intro hg9 K9
    refine WL.gpur (u := 9) rfl rfl (gF hg9) (Pur.move rfl) ?_
    refine' WL.gpur (u := 9) rfl rfl (gF hg9) (Pur.bin rfl rfl ?h3_0) ?k3
    case h3_0 => first | exact Bin.ltN (b := 0) | exact Bin.ltI | exact Bin.ltS
    exact K9 _ zcR rfl
  case h2_1 =>
    intro hg9 K9
    refine WL.gskip (u := 9) rfl rfl (sF hg9) ?_
    refine WL.gskip (u := 9) rfl rfl (sF hg9) ?_
    exact K9 _ zcR
  case h2_2 => exact Wanted.plain rfl
  refine WL.pur (Pur.move rfl) ?_
  refine' WL.orp (u := 13) (t := 21) rfl ?h4_0 ?h4_1 ?h4_2 rfl ?k4
  case h4_0 =>
    intro hg13 K13
    refine WL.gpur (u := 13) rfl rfl (gF hg13) (Pur.move rfl) ?_
    refine WL.gpur (u := 13) rfl rfl (gF hg13) (Pur.move rfl) ?_
    refine WL.gpur (u := 13) rfl rfl (gF hg13) (Pur.nilCheck rfl) ?_
    refine WL.gpur (u := 13) rfl rfl (gF hg13) (Pur.fieldAddr rfl fo_84_0) ?_
    refine' WL.gpur (u := 13) rfl rfl (gF hg13) (Pur.load1 rfl ty_23 ?h5_0) ?k5
    case h5_0 => first | (apply Rd.own1; exact zmE; rfl) | (apply RdV.rd; apply RdV.idx (i := 0); assumption; rfl)
    refine WL.gpur (u := 13) rfl rfl (gF hg13) (Pur.len rfl isSlice_23) ?_
    refine' WL.gpur (u := 13) rfl rfl (gF hg13) (Pur.bin rfl rfl ?h6_0) ?k6
    case h6_0 => first | exact Bin.geN | exact Bin.geI
    exact K13 _ zcR rfl
  case h4_1 =>
    intro hg13 K13
    refine WL.gskip (u := 13) rfl rfl (sF hg13) ?_
    refine WL.gskip (u := 13) rfl rfl (sF hg13) ?_
    refine WL.gskip (u := 13) rfl rfl (sF hg13) ?_
    refine WL.gskip (u := 13) rfl rfl (sF hg13) ?_
    refine WL.gskip (u := 13) rfl rfl (sF hg13) ?_
    refine WL.gskip (u := 13) rfl rfl (sF hg13) ?_
    refine WL.gskip (u := 13) rfl rfl (sF hg13) ?_
    exact K13 _ zcR
  case h4_2 => exact Wanted.plain rfl
  refine WL.pur (Pur.move rfl) ?_
  refine' WL.orp (u := 22) (t := 34) rfl ?h7_0 ?h7_1 ?h7_2 rfl ?k7
  case h7_0 =>
    intro hg22 K22
    refine WL.gpur (u := 22) rfl rfl (gF hg22) (Pur.move rfl) ?_
    refine' WL.gpur (u := 22) rfl rfl (gF hg22) (Pur.bin rfl rfl ?h8_0) ?k8
    case h8_0 => first | (refine Bin.quoN (b := 64) ?_ ?_ <;> omega)
    refine WL.gpur (u := 22) rfl rfl (gF hg22) (Pur.move rfl) ?_
    refine WL.gpur (u := 22) rfl rfl (gF hg22) (Pur.nilCheck rfl) ?_
    refine WL.gpur (u := 22) rfl rfl (gF hg22) (Pur.fieldAddr rfl fo_84_2) ?_
    refine' WL.gpur (u := 22) rfl rfl (gF hg22) (Pur.load1 rfl ty_82 ?h9_0) ?k9
    case h9_0 => first | (apply Rd.own1; exact zmE; rfl) | (apply RdV.rd; apply RdV.idx (i := 2); assumption; rfl) | (apply RdV.rd; apply RdV.idx (off := 0) (i := 2); assumption; rfl)
    refine WL.gpur (u := 22) rfl rfl (gF hg22) (Pur.move rfl) ?_
    refine' WL.gpur (u := 22) rfl rfl (gF hg22) (Pur.indexAddr rfl rfl sl_82 ?h10_0) ?k10
    case h10_0 => omega
    refine' WL.gpur (u := 22) rfl rfl (gF hg22) (Pur.load1 rfl ty_100 ?h11_0) ?k11
    case h11_0 => first | (apply Rd.own1; exact zmE; rfl) | (apply Rd.own1; exact zmE; assumption) | (apply Rd.own_map; exact zmE; assumption) | exact RdV.rd (by assumption) | (apply Rd.own1; exact zmE; exact get_row (by assumption) (by first | assumption | omega)) | (apply RdV.rd; apply RdV.idx (i := 0); assumption; rfl)
    refine WL.gpur (u := 22) rfl rfl (gF hg22) (Pur.len rfl isSlice_100) ?_
    refine' WL.gpur (u := 22) rfl rfl (gF hg22) (Pur.bin rfl rfl ?h12_0) ?k12
    case h12_0 => first | exact Bin.geN | exact Bin.geI
    exact K22 _ zcR rfl
  case h7_1 =>
    intro hg22 K22
    refine WL.gskip (u := 22) rfl rfl (sF hg22) ?_
    refine WL.gskip (u := 22) rfl rfl (sF hg22) ?_
    refine WL.gskip (u := 22) rfl rfl (sF hg22) ?_
    refine WL.gskip (u := 22) rfl rfl (sF hg22) ?_
    refine WL.gskip (u := 22) rfl rfl (sF hg22) ?_
    refine WL.gskip (u := 22) rfl rfl (sF hg22) ?_
    refine WL.gskip (u := 22) rfl rfl (sF hg22) ?_
    refine WL.gskip (u := 22) rfl rfl (sF hg22) ?_
    refine WL.gskip (u := 22) rfl rfl (sF hg22) ?_
    refine WL.gskip (u := 22) rfl rfl (sF hg22) ?_
    refine WL.gskip (u := 22) rfl rfl (sF hg22) ?_
    exact K22 _ zcR
  case h7_2 => exact Wanted.plain rfl
  refine WL.nil ?_
  refine WQ.thn ?_
  first | refine WC.cond rfl (fun hc0 => ?_) (fun hc0 => ?_) | refine WC.condB rfl (fun hc0 => ?_) (fun hc0 => ?_)
  · refine WC.seq ?_
    refine WC.region ?_
    refine WL.pur (Pur.assign rfl) ?_
    refine WL.nil ?_
    refine WQ.thn ?_
    refine WC.ret ?_
    refine WQ.thn_ret ?_
    refine WQ.ret1 Try.results25 rfl [] zsL (View.le_refl _) ?_
    refine ⟨?_, rfl, rfl⟩
    exact boolF (by rw [sees_hi ho hj (by omega)]; simp)
  · have hiw : i / 64 < (j + 63) / 64 := by omega
    have hww := wordsOf_get (L := L) hiw
    have hwlt := wordN_lt ((rowsN L L.length).getD j 0) (i / 64)
    obtain ⟨wb2, woff2, wc2, e2, _, _, hwat⟩ := hw.at (by omega)
    cases e2
    obtain ⟨ws, _, _, rfl, hwd⟩ := hwat _ _ hww
    refine WC.skip ?_
    refine WQ.thn ?_
    refine WC.seq ?_
    refine WC.region ?_
    refine WL.pur (Pur.move rfl) ?_
    refine WL.pur (Pur.nilCheck rfl) ?_
    refine WL.pur (Pur.fieldAddr rfl fo_84_2) ?_
    refine' WL.pur (Pur.load1 rfl ty_82 ?h13_0) ?k13
    case h13_0 => first | (apply Rd.own1; exact zmE; rfl) | (apply RdV.rd; apply RdV.idx (i := 2); assumption; rfl) | (apply RdV.rd; apply RdV.idx (off := 0) (i := 2); assumption; rfl)
    refine WL.pur (Pur.move rfl) ?_
    refine' WL.pur (Pur.indexAddr rfl rfl sl_82 ?h14_0) ?k14
    case h14_0 => omega
    refine' WL.pur (Pur.load1 rfl ty_100 ?h15_0) ?k15
    case h15_0 => first | (apply Rd.own1; exact zmE; rfl) | (apply Rd.own1; exact zmE; assumption) | (apply Rd.own_map; exact zmE; assumption) | exact RdV.rd (by assumption) | (apply Rd.own1; exact zmE; exact get_row (by assumption) (by first | assumption | omega)) | (apply RdV.rd; apply RdV.idx (i := 0); assumption; rfl)
    refine WL.pur (Pur.move rfl) ?_
    refine' WL.pur (Pur.bin rfl rfl ?h16_0) ?k16
    case h16_0 => first | (refine Bin.quoN (b := 64) ?_ ?_ <;> omega)
    refine' WL.pur (Pur.indexAddr rfl rfl sl_100 ?h17_0) ?k17
    case h17_0 => omega
    refine' WL.pur (Pur.load1 rfl ty_101 ?h18_0) ?k18
    case h18_0 => first | (apply Rd.own1; exact zmE; rfl) | (apply Rd.own1; exact zmE; assumption) | (apply Rd.own_map; exact zmE; assumption) | exact RdV.rd (by assumption) | (apply Rd.own1; exact zmE; exact get_row (by assumption) (by first | assumption | omega)) | (apply RdV.rd; apply RdV.idx (i := 0); assumption; rfl)
    refine WL.pur (Pur.move rfl) ?_
    refine' WL.pur (Pur.bin rfl rfl ?h19_0) ?k19
    case h19_0 => first | (refine Bin.remN (b := 64) ?_; omega)
    refine' WL.pur (Pur.bin rfl rfl ?h20_0) ?k20
    case h20_0 => first | (refine Bin.shrU ?_; omega)
    refine' WL.pur (Pur.bin rfl rfl ?h21_0) ?k21
    case h21_0 => first | (refine Bin.andU (b := 1) ?_ ?_ <;> omega)
    refine' WL.pur (Pur.bin rfl rfl ?h22_0) ?k22
    case h22_0 => first | exact Bin.eqN (b := 1) | exact Bin.eqI
    refine WL.pur (Pur.assign rfl) ?_
    refine WL.nil ?_
    refine WQ.thn ?_
    refine WC.ret ?_
    refine WQ.ret1 Try.results25 rfl [] zsL (View.le_refl _) ?_
    refine ⟨?_, rfl, rfl⟩
    exact decB hask

end Go.Proofs.Ytgoooilgmabkmaa
namespace Go.Proofs.Ytgoooilgmabkmaa
open Go Go.Sl
set_option linter.unusedVariables false
set_option linter.unusedSimpArgs false
set_option maxRecDepth 100000

/-- what a history hands out, one by one -/
def entG (L : List EntD) (i : Nat) (args : List Value) (σ : View) : Prop :=
  ∃ e pv ov, L[i]? = some e ∧ args = [.int .i64 (i : Int), .agg (entCells e.id e.node.au e.node.cl pv ov).toArray] ∧ IsH e.id ∧ NodeR σ e.node pv ov

theorem past_All1 (σ0 : View) (bx : Nat) (pv : Value) (L : List EntD) (h : PastV σ0 pv L) (hb : RdV σ0 bx 0 [pv]) (hmost : L.length ≤ 4096) :
    IterAll Try.prog 41 [.pointer (some ⟨bx, 0, none⟩)] L.length (entG L) σ0 := by
  intro ly J Jx σ H hle hround h0
  obtain ⟨b, mb, lv, sv, rfl, hr, hl, hm, hs⟩ := h
  obtain ⟨la, lc, rfl, hlc, hlb⟩ := hl.shape
  obtain ⟨lb, loff, hel⟩ := addr_of hl
  have hb1 := hb.mono hle
  have hr1 := hr.mono hle
  refine Tri.of_body [(0, .func (.yield ly) #[] #[]), (1, .pointer (some ⟨bx, 0, none⟩))] Try.func41 rfl Try.ntmps41 (by simp) rfl (fun Hr => ?_)
  skip
  refine WC.seq ?_
  refine WC.region ?_
  refine' WL.pur (Pur.load1 rfl ty_25 ?h1_0) ?k1
  case h1_0 => first | (apply Rd.own1; exact zmE; rfl) | exact RdV.rd (by assumption)
  refine WL.pur (Pur.nilCheck rfl) ?_
  refine WL.pur (Pur.fieldAddr rfl fo_84_0) ?_
  refine' WL.pur (Pur.load1 rfl ty_23 ?h2_0) ?k2
  case h2_0 => first | (apply Rd.own1; exact zmE; rfl) | (apply RdV.rd; apply RdV.idx (i := 0); assumption; rfl)
  refine WL.pur (Pur.len rfl isSlice_23) ?_
  refine WL.pur (Pur.move rfl) ?_
  refine WL.nil ?_
  refine WQ.thn ?_
  refine WC.block ?_
  refine WC.loop (fun j m σ' H' => ∃ (i : Nat) (Hi : HList), j = L.length - i ∧ i ≤ L.length ∧ J i σ' Hi ∧ σ.le σ' ∧ m = [(0, .func (.yield ly) #[] #[]), (1, .pointer (some ⟨bx, 0, none⟩)), (7, .slice la L.length lc), (8, .int .i64 (L.length : Int)), (9, .int .i64 (i : Int))] ∧ H' = Hi ++ Hr) ⟨0, H, rfl, by omega, h0, View.le_refl _, rfl, rfl⟩ zcV zsL ?_
  rintro _ _ σ Hr ⟨i, Hi, rfl, hi, hJ, hle1, rfl, rfl⟩
  refine WC.seq ?_
  refine WC.region ?_
  refine' WL.pur (Pur.bin rfl rfl ?h3_0) ?k3
  case h3_0 => first | exact Bin.ltN | exact Bin.ltI | exact Bin.ltS
  refine WL.nil ?_
  refine WQ.thn ?_
  refine WC.seq ?_
  first | refine WC.cond rfl (fun hc0 => ?_) (fun hc0 => ?_) | refine WC.condB rfl (fun hc0 => ?_) (fun hc0 => ?_)
  · have hb2 := hb.mono (View.le_trans hle hle1)
    have hr2 := hr.mono (View.le_trans hle hle1)
    have hl2 := hl.mono eEnt_mono (View.le_trans hle hle1)
    obtain ⟨e, he⟩ : ∃ e, L[i]? = some e := ⟨_, List.getElem?_eq_getElem hc0⟩
    obtain ⟨qv, ov, hrd, heH, hNR⟩ := ent_rd hl2 hel he
    refine WC.skip ?_
    refine WQ.thn ?_
    refine WC.seq ?_
    refine WC.block ?_
    refine WC.seq ?_
    refine WC.region ?_
    refine WL.pur (Pur.move rfl) ?_
    refine WL.pur (Pur.assign rfl) ?_
    refine WL.nil ?_
    refine WQ.thn ?_
    refine WC.seq ?_
    refine WC.region ?_
    refine WL.pur (Pur.move rfl) ?_
    refine WL.pur (Pur.move rfl) ?_
    refine' WL.pur (Pur.load1 rfl ty_25 ?h4_0) ?k4
    case h4_0 => first | (apply Rd.own1; exact zmE; rfl) | exact RdV.rd (by assumption)
    refine WL.pur (Pur.nilCheck rfl) ?_
    refine WL.pur (Pur.fieldAddr rfl fo_84_0) ?_
    refine' WL.pur (Pur.load1 rfl ty_23 ?h5_0) ?k5
    case h5_0 => first | (apply Rd.own1; exact zmE; rfl) | (apply RdV.rd; apply RdV.idx (i := 0); assumption; rfl)
    refine WL.pur (Pur.move rfl) ?_
    refine' WL.pur (Pur.indexAddr (eqA (hel (by omega))) rfl sl_23 ?h6_0) ?k6
    case h6_0 => omega
    refine' WL.pur (Pur.loadN rfl ty_37 ?h7_0 ?h7_1) ?k7
    case h7_0 => first | (apply Rd.own_sub; exact zmE; exact Sub.refl _) | (apply RdV.rd; assumption)
    case h7_1 => first | rfl | assumption
    refine WL.call (H0 := []) (Hr := Hi ++ Hr) rfl Try.call38 (List.Perm.refl _) (past_own _ e.id e.node qv ov hNR) ?_
    rintro v21 σ2 _ ⟨⟨pv', ov', rfl, hN2⟩, rfl⟩ hle2
    rw [List.nil_append]
    refine WL.callY (H0 := Hi) (Hr := Hr) rfl rfl (List.Perm.refl _) (hround i _ _ Hi σ2 hc0 hJ hle1 hle2 ⟨e, pv', ov', he, rfl, heH, hN2⟩) ?_
    intro v22 σ3 H3 hR3 hle3
    obtain ⟨bv, rfl, hJ3⟩ : ∃ bv : Bool, v22 = .bool bv ∧ (bv = true → J (i + 1) σ3 H3) ∧ (bv = false → Jx (i + 1) σ3 H3) := by
      rcases hR3 with ⟨h1, h2⟩ | ⟨h1, h2⟩
      · exact ⟨true, h1, fun _ => h2, fun h => by cases h⟩
      · exact ⟨false, h1, fun h => (by cases h), fun _ => h2⟩
    first | refine WL.pur (Pur.not rfl) ?_ | refine WL.pur (Pur.notB rfl) ?_
    refine WL.nil ?_
    refine WQ.thn ?_
    first | refine WC.cond rfl (fun hc1 => ?_) (fun hc1 => ?_) | refine WC.condB rfl (fun hc1 => ?_) (fun hc1 => ?_)
    · refine WC.ret ?_
      refine WQ.blk_ret ?_
      refine WQ.thn_ret ?_
      refine WQ.back_ret ?_
      refine WQ.blk_ret ?_
      refine WQ.ret0 Try.results41 H3 (.inl rfl) zsL (View.le_trans hle1 (View.le_trans hle2 hle3)) ?_
      exact .inr ⟨i + 1, by omega, hJ3.2 (by cases bv <;> simp_all)⟩
    · refine WC.skip ?_
      refine WQ.blk ?_
      refine WQ.thn ?_
      refine WC.region ?_
      refine' WL.pur (Pur.bin rfl rfl ?h8_0) ?k8
      case h8_0 => first | (refine Bin.addN (b := 1) ?_; omega) | (refine Bin.addI ?_; omega)
      refine WL.pur (Pur.move rfl) ?_
      refine WL.nil ?_
      refine WQ.back _ ⟨i + 1, H3, rfl, by omega, hJ3.1 (by cases bv <;> simp_all), View.le_trans hle1 (View.le_trans hle2 hle3), rfl, rfl⟩ (by omega) zcV zsL
  · refine WC.exit ?_
    refine WQ.thn_exit ?_
    refine WQ.back_exit ?_
    refine WQ.blk_here ?_
    refine WQ.ret0 Try.results41 Hi (.inr rfl) zsL hle1 ?_
    have : i = L.length := by omega
    subst this
    exact .inl hJ

end Go.Proofs.Ytgoooilgmabkmaa
namespace Go.Proofs.Ytgoooilgmabkmaa
open Go Go.Sl
set_option linter.unusedVariables false
set_option linter.unusedSimpArgs false
set_option maxRecDepth 100000

theorem past_All (σ : View) (pv : Value) (h1 : pv.oneCell' = true) :
    Tri Try.prog 18 #[pv] σ [] (fun v σ' H' => (∃ bx, v = .func (.func 41) #[] #[.pointer (some ⟨bx, 0, none⟩)] ∧ RdV σ' bx 0 [pv]) ∧ H' = []) := by
  refine Tri.of_body [(0, pv)] Try.func18 rfl Try.ntmps18 (by simp) rfl (fun Hr => ?_)
  rw [List.nil_append]
  refine WC.seq ?_
  refine WC.region ?_
  refine WL.new (New.box1 rfl (by first | rfl | assumption)) (fun b1 => ?_)
  refine WL.pur (Pur.assign rfl) ?_
  refine WL.nil ?_
  refine WQ.thn ?_
  refine WC.seq ?_
  refine WC.region ?_
  refine WL.pur (Pur.makeFunc rfl rfl) ?_
  refine WL.pur (Pur.assign rfl) ?_
  refine WL.nil ?_
  refine WQ.thn ?_
  refine WC.ret ?_
  refine WQ.give (H1 := []) (fun hb => ?_)
  refine WQ.ret1 Try.results18 rfl [] zsL (View.le_add _ hb) ?_
  exact ⟨⟨b1, rfl, RdV.row (View.add_same _ _ _)⟩, rfl⟩

end Go.Proofs.Ytgoooilgmabkmaa
namespace Go.Proofs.Ytgoooilgmabkmaa
open Go Go.Sl
set_option linter.unusedVariables false
set_option linter.unusedSimpArgs false
set_option maxRecDepth 100000

/-- of some entries, those that no other one of them has seen -/
def topP (L : List EntD) (p : Nat → Prop) (i : Nat) : Prop := p i ∧ ∀ k, k < L.length → ¬ (p k ∧ seesN L i k = true)
instance (L : List EntD) (p : Nat → Prop) [DecidablePred p] (i : Nat) : Decidable (topP L p i) := by unfold topP; infer_instance
def topsN (L : List EntD) (p : Nat → Prop) [DecidablePred p] (n : Nat) : List Nat := ((List.range n).filter fun i => decide (topP L p i)).map (idAt L)
theorem topsN_zero (L : List EntD) (p : Nat → Prop) [DecidablePred p] : topsN L p 0 = [] := by simp [topsN]
theorem topsN_yes {L : List EntD} {p : Nat → Prop} [DecidablePred p] {i : Nat} (h : topP L p i) : topsN L p (i + 1) = topsN L p i ++ [idAt L i] := by
  unfold topsN
  rw [List.range_succ, List.filter_append, List.map_append]
  simp [h]
theorem topsN_no {L : List EntD} {p : Nat → Prop} [DecidablePred p] {i : Nat} (h : ¬ topP L p i) : topsN L p (i + 1) = topsN L p i := by
  unfold topsN
  rw [List.range_succ, List.filter_append, List.map_append]
  simp [h]
theorem topsN_len (L : List EntD) (p : Nat → Prop) [DecidablePred p] (n : Nat) : (topsN L p n).length ≤ n := by
  unfold topsN
  rw [List.length_map]
  refine Nat.le_trans (List.length_filter_le _ _) ?_
  simp
theorem topsN_nodup {L : List EntD} (ho : OrdOk L) (p : Nat → Prop) [DecidablePred p] : (topsN L p L.length).Nodup := by
  unfold topsN
  rw [List.Nodup, List.pairwise_map]
  refine List.Pairwise.imp_of_mem ?_ ((List.nodup_range (n := L.length)).sublist List.filter_sublist)
  intro a b ha hb hab he
  have ha := List.mem_range.1 (List.mem_filter.1 ha).1
  have hb := List.mem_range.1 (List.mem_filter.1 hb).1
  have e1 := idxOf_of ho.nodup (List.getElem?_eq_getElem ha)
  have e2 := idxOf_of ho.nodup (List.getElem?_eq_getElem hb)
  rw [← idAt_of (List.getElem?_eq_getElem ha)] at e1
  rw [← idAt_of (List.getElem?_eq_getElem hb), ← he, e1] at e2
  exact hab (Option.some.inj e2)
theorem mem_topsN {L : List EntD} {p : Nat → Prop} [DecidablePred p] {n x : Nat} : x ∈ topsN L p n ↔ ∃ i, i < n ∧ topP L p i ∧ idAt L i = x := by
  unfold topsN
  simp only [List.mem_map, List.mem_filter, List.mem_range, decide_eq_true_eq, and_assoc]
/-- .. up to an entry -/
abbrev topTo (L : List EntD) (p : Nat → Prop) (i j : Nat) : Prop := ∀ k, i < k → k < j → ¬ (p k ∧ seesN L i k = true)
theorem topTo_iff {L : List EntD} (ho : OrdOk L) {p : Nat → Prop} {i : Nat} (hp : p i) : topTo L p i L.length ↔ topP L p i := by
  constructor
  · exact fun h => ⟨hp, fun k hk hc => h k (sees_lt ho hc.2).1 hk hc⟩
  · exact fun h k _ hk => h.2 k hk
theorem topTo_succ {L : List EntD} {p : Nat → Prop} {i j : Nat} (hij : i < j) (h : topTo L p i j) : (¬ p j ∨ ¬ seesN L i j = true) ↔ topTo L p i (j + 1) := by
  constructor
  · intro h1 k hk1 hk2 hc
    by_cases hkj : k = j
    · subst hkj; exact h1.elim (fun h => h hc.1) (fun h => h hc.2)
    · exact h k hk1 (by omega) hc
  · intro h1
    have := h1 j hij (by omega)
    by_cases hp : p j
    · exact .inr fun hs => this ⟨hp, hs⟩
    · exact .inl hp
theorem topTo_le {L : List EntD} {p : Nat → Prop} {i j : Nat} (h : ¬ topTo L p i j) (hj : j ≤ L.length) : ¬ topTo L p i L.length := fun h2 => h fun k h3 h4 => h2 k h3 (by omega)
/-- all of them -/
theorem heads_tops {L : List EntD} (ho : OrdOk L) : sortN (topsN L (fun _ => True) L.length) = headsL L := by
  refine rises_ext _ _ (sortN_rises (topsN_nodup ho _)) ?_ fun x => ?_
  · have hnd : (headsL L).Nodup := by
      unfold headsL
      rw [List.Nodup, List.pairwise_map]
      have h0 : (rankL L 0 L.length).Nodup := (rankL_perm L _ 0 L.length rfl).nodup_iff.2 (List.nodup_range' (step := 1))
      refine List.Pairwise.imp_of_mem ?_ (h0.sublist List.filter_sublist)
      intro a b ha hb hab he
      have ha := (rankL_mem.1 (List.mem_filter.1 ha).1).2
      have hb := (rankL_mem.1 (List.mem_filter.1 hb).1).2
      have e1 := idxOf_of ho.nodup (List.getElem?_eq_getElem ha)
      have e2 := idxOf_of ho.nodup (List.getElem?_eq_getElem hb)
      rw [← idAt_of (List.getElem?_eq_getElem ha)] at e1
      rw [← idAt_of (List.getElem?_eq_getElem hb), ← he, e1] at e2
      exact hab (Option.some.inj e2)
    refine nodup_rises hnd ?_
    unfold headsL
    rw [List.pairwise_map]
    exact List.Pairwise.imp (fun h => by simpa [leId] using h) ((rankL_sorted L _ 0 L.length rfl).sublist List.filter_sublist)
  · rw [(sortN_perm _).mem_iff, mem_topsN, mem_heads]
    constructor
    · rintro ⟨i, h1, h2, h3⟩
      refine ⟨i, h1, (topB_iff ho).2 fun j => ?_, h3⟩
      cases hs : seesN L i j with
      | false => rfl
      | true => exact absurd ⟨trivial, hs⟩ (h2.2 j (sees_lt ho hs).2)
    · rintro ⟨i, h1, h2, h3⟩
      exact ⟨i, h1, ⟨trivial, fun k _ hc => by have := (topB_iff ho).1 h2 k; rw [this] at hc; exact absurd hc.2 (by simp)⟩, h3⟩

set_option maxHeartbeats 2000000 in
theorem past_tops (σ : View) (pv : Value) (L : List EntD) (h : PastV σ pv L) (ho : OrdOk L) (fd : FuncId) (cs : List Value) (p : Nat → Prop) [DecidablePred p] (hen : ∀ args w, (callFunc fd args).run Try.prog w = .ok (.enter fd args) w) (hin : ∀ σ1, σ.le σ1 → ∀ i : Nat, i < L.length → TriP Try.prog fd ([Value.int .i64 (i : Int)] ++ cs).toArray σ1 (.bool (decide (p i)))) :
    Tri Try.prog 48 #[pv, .func (.func fd) #[] cs.toArray] σ [] (fun v σ' H' => Hashes σ' v (sortN (topsN L p L.length)) ∧ H' = []) := by
  have h' := h
  have hmost := ho.most
  obtain ⟨b, mb, lv, sv, rfl, hr, hl, hm, hs⟩ := h
  obtain ⟨la, lc, rfl, hlc, hlb⟩ := hl.shape
  refine Tri.of_bodyM [(0, .pointer (some ⟨b, 0, none⟩)), (1, .func (.func fd) #[] cs.toArray)] Try.func48 rfl Try.ntmps48 (by simp) rfl (fun Hr => ?_)
  rw [List.nil_append]
  refine WC.seq ?_
  refine WC.region ?_
  refine WL.new (New.box1 rfl (by first | rfl | assumption)) (fun b2 => ?_)
  refine WL.new (New.box1 rfl (by first | rfl | assumption)) (fun b3 => ?_)
  refine WL.pur (Pur.assign rfl) ?_
  refine WL.nil ?_
  refine WQ.thn ?_
  refine WC.seq ?_
  refine WC.region ?_
  refine WL.give (H1 := [(b3, _)]) (H2 := Hr) (fun hb2 => ?_)
  rw [List.singleton_append]
  have hle2 := View.le_add (rowO 25 [.pointer (some ⟨b, 0, none⟩)]) hb2
  have hr2 := RdV.row (View.add_same σ b2 (rowO 25 [.pointer (some ⟨b, 0, none⟩)]))
  generalize σ.add b2 (rowO 25 [.pointer (some ⟨b, 0, none⟩)]) = σ2 at hle2 hr2 ⊢
  refine WL.give (H1 := []) (H2 := Hr) (fun hb3 => ?_)
  rw [List.nil_append]
  have hle3 := View.le_add (rowO 98 [.func (.func fd) #[] cs.toArray]) hb3
  have hr3 := RdV.row (View.add_same σ2 b3 (rowO 98 [.func (.func fd) #[] cs.toArray]))
  have hr2 := hr2.mono hle3
  have hle3 := View.le_trans hle2 hle3
  generalize σ2.add b3 (rowO 98 [.func (.func fd) #[] cs.toArray]) = σ3 at hle3 hr2 hr3 ⊢
  refine WL.new (New.alloc zc_32) (fun b5 => ?_)
  refine WL.nil ?_
  refine WQ.thn ?_
  refine WC.seq ?_
  refine WC.seq ?_
  refine WC.region ?_
  refine' WL.pur (Pur.load1 rfl ty_25 ?h1_0) ?k1
  case h1_0 => exact RdV.rd hr2
  refine WL.call (H0 := []) (Hr := _) rfl Try.call18 (List.Perm.refl _) (past_All _ _ rfl) ?_
  rintro v11 σa _ ⟨⟨bx, rfl, hbx⟩, rfl⟩ hlea
  rw [List.nil_append]
  refine WL.nil ?_
  refine WQ.thn ?_
  refine WC.block ?_
  refine WC.rangeFunc (H0 := [(b5, rowO 32 [.slice none 0 0])]) (Hr := Hr) rfl Try.call41 (past_All1 σa bx _ L (h'.mono (View.le_trans hle3 hlea)) hbx hmost) (View.le_refl _) (List.Perm.refl _) (fun i σ' H' => ∃ sv5 hl5, SlO σ' eHash 31 32 sv5 (topsN L p i) hl5 ∧ H' = (b5, rowO 32 [sv5]) :: hl5 ∧ σa.le σ') (fun _ _ _ => False) (fun i args σ2 hG => by obtain ⟨e, pv, ov, _, rfl, _⟩ := hG; rfl) (by decide) (⟨_, [], by rw [topsN_zero]; exact SlO.nil, rfl, View.le_refl _⟩) ?_ ?_ ?_
  · intro lq rec0 rec1 i args σ1 σ2 H1 Hq QA QB hi hJ hle1 hle2 hG hA hB hX
    obtain ⟨sv5, hl, hso0, rfl, hleK⟩ := hJ
    obtain ⟨e, qv, ov, he, rfl, heH, hNR⟩ := hG
    obtain ⟨qa, qc, rfl, hqc, hqb⟩ := hNR.1.shape
    obtain ⟨oa, oc, rfl, hoc, hob⟩ := hNR.2.1.shape
    rw [List.cons_append]
    have hso := hso0.mono eHash_mono hle2
    have hlek := View.le_trans hleK hle2
    have hlej := View.le_trans hlea hlek
    have hleb := View.le_trans hle3 hlej
    have hr2b := hr2.mono hlej
    have hr3b := hr3.mono hlej
    have hpb := h'.mono hleb
    have hrb := hr.mono hleb
    have hid : idAt L i = e.id := idAt_of he
    have htl := topsN_len L p i
    have hsv1 := hso.one_cell
    refine WC.seq ?_
    refine WC.region ?_
    refine WL.pur (Pur.assign rfl) ?_
    refine WL.nil ?_
    refine WQ.thn ?_
    refine WC.region ?_
    refine WL.new (New.alloc zc_37) (fun b7 => ?_)
    refine' WL.run0 (Run.storeAll rfl rfl ty_37 ?h2_0 (by first | rfl | assumption) ?h2_1 (by first | rfl | assumption)) ?k2
    case h2_0 => repeat (first | exact Part.one | exact Part.here | apply Part.cons | apply Part.app)
    case h2_1 => first | rfl | assumption
    refine WL.nil ?_
    refine hA _ _ _ _ (by repeat (first | exact Part.one | exact Part.here | apply Part.cons | apply Part.app)) ?_
    refine WC.block ?_
    refine WC.seq ?_
    refine WC.seq ?_
    refine WC.region ?_
    refine' WL.pur (Pur.load1 rfl ty_98 ?h3_0) ?k3
    case h3_0 => exact RdV.rd hr3b
    refine WL.pur (Pur.move rfl) ?_
    refine WL.callVP (fs := []) (cs := cs) rfl rfl hen (hin _ hleb i hi) ?_
    first | refine WL.pur (Pur.not rfl) ?_ | refine WL.pur (Pur.notB rfl) ?_
    refine WL.nil ?_
    refine WQ.thn ?_
    first | refine WC.cond rfl (fun hc0 => ?_) (fun hc0 => ?_) | refine WC.condB rfl (fun hc0 => ?_) (fun hc0 => ?_)
    · have hc0 : ¬ p i := hc0
      refine WC.exit ?_
      refine WQ.thn_exit ?_
      refine WQ.blk_here ?_
      exact hB _ _ _ _ (⟨_, _, by rw [topsN_no (fun h => hc0 h.1)]; exact hso, rfl, hlek⟩) (View.le_refl _) (by simp only [List.cons_append]; repeat (first | exact List.Sublist.refl _ | apply List.Sublist.cons_cons | apply List.Sublist.cons))
    · have hpi : p i := Decidable.not_not.1 hc0
      refine WC.skip ?_
      refine WQ.thn ?_
      refine WC.seq ?_
      refine WC.region ?_
      refine WL.pur (Pur.assign rfl) ?_
      refine WL.nil ?_
      refine WQ.thn ?_
      refine WC.seq ?_
      refine WC.seq ?_
      refine WC.region ?_
      refine WL.pur (Pur.move rfl) ?_
      refine' WL.pur (Pur.bin rfl rfl ?h4_0) ?k4
      case h4_0 => first | (refine Bin.addN (b := 1) ?_; omega) | (refine Bin.addI ?_; omega)
      refine WL.pur (Pur.assign rfl) ?_
      refine WL.nil ?_
      refine WQ.thn ?_
      refine WC.block ?_
      refine WC.loop (fun j m σ' H' => ∃ (j0 : Nat) (tp : Prop) (_ : Decidable tp), j = L.length - j0 ∧ i < j0 ∧ j0 ≤ L.length ∧ (tp ↔ topTo L p i j0) ∧ m = [(2, .pointer (some ⟨b2, 0, none⟩)), (3, .pointer (some ⟨b3, 0, none⟩)), (5, .pointer (some ⟨b5, 0, none⟩)), (6, .int .i64 (i : Int)), (7, .pointer (some ⟨b7, 0, none⟩)), (8, .bool (decide tp)), (9, .int .i64 (j0 : Int))] ∧ σ' = σ2 ∧ H' = (b7, rowO 37 (entCells e.id e.node.au e.node.cl (.slice qa e.node.ps.length qc) (.slice oa e.node.ops.length oc))) :: (b5, rowO 32 [sv5]) :: (hl ++ (lq, rec1) :: Hq)) ⟨i + 1, True, inferInstance, rfl, by omega, by omega, ⟨fun _ k h1 h2 => by omega, fun _ => trivial⟩, rfl, rfl, rfl⟩ zcV zsL ?_
      rintro _ _ σ Hr ⟨j0, tp, hdec, rfl, hij, hj0, htp, rfl, rfl, rfl⟩
      refine WC.seq ?_
      refine WC.seq ?_
      refine WC.region ?_
      refine WL.pur (Pur.move rfl) ?_
      refine' WL.pur (Pur.load1 rfl ty_25 ?h5_0) ?k5
      case h5_0 => exact RdV.rd hr2b
      refine WL.pur (Pur.nilCheck rfl) ?_
      refine WL.pur (Pur.fieldAddr rfl fo_84_0) ?_
      refine' WL.pur (Pur.load1 rfl ty_23 ?h6_0) ?k6
      case h6_0 => exact RdV.rd (RdV.idx (off := 0) (i := 0) hrb rfl)
      refine WL.pur (Pur.len rfl isSlice_23) ?_
      refine' WL.pur (Pur.bin rfl rfl ?h7_0) ?k7
      case h7_0 => first | exact Bin.ltN | exact Bin.ltI | exact Bin.ltS
      refine WL.pur (Pur.move rfl) ?_
      refine' WL.andp (u := 27) (t := 29) rfl ?h8_0 ?h8_1 ?h8_2 rfl ?k8
      case h8_0 =>
        intro hg27 K27
        refine WL.gpur (u := 27) rfl rfl (gT hg27) (Pur.move rfl) ?_
        exact K27 _ zcR rfl
      case h8_1 =>
        intro hg27 K27
        refine WL.gskip (u := 27) rfl rfl (sT hg27) ?_
        exact K27 _ zcR
      case h8_2 => exact Wanted.plain rfl
      refine WL.nil ?_
      refine WQ.thn ?_
      first | refine WC.cond rfl (fun hc1 => ?_) (fun hc1 => ?_) | refine WC.condB rfl (fun hc1 => ?_) (fun hc1 => ?_)
      · have hjl : j0 < L.length := hc1.1
        refine WC.skip ?_
        refine WQ.thn ?_
        refine WC.seq ?_
        refine WC.block ?_
        refine WC.region ?_
        refine' WL.pur (Pur.load1 rfl ty_98 ?h9_0) ?k9
        case h9_0 => exact RdV.rd hr3b
        refine WL.pur (Pur.move rfl) ?_
        refine WL.callVP (fs := []) (cs := cs) rfl rfl hen (hin _ hleb j0 hjl) ?_
        first | refine WL.pur (Pur.not rfl) ?_ | refine WL.pur (Pur.notB rfl) ?_
        refine WL.pur (Pur.move rfl) ?_
        refine' WL.orp (u := 36) (t := 42) rfl ?h10_0 ?h10_1 ?h10_2 rfl ?k10
        case h10_0 =>
          intro hg36 K36
          refine' WL.gpur (u := 36) rfl rfl (gF hg36) (Pur.load1 rfl ty_25 ?h11_0) ?k11
          case h11_0 => exact RdV.rd hr2b
          refine WL.gpur (u := 36) rfl rfl (gF hg36) (Pur.move rfl) ?_
          refine WL.gpur (u := 36) rfl rfl (gF hg36) (Pur.move rfl) ?_
          refine WL.gcallP (u := 36) rfl rfl (gF hg36) rfl Try.call25 ((past_Sees _ _ L i j0 hpb ho hjl (by omega))) ?_
          first | refine WL.gpur (u := 36) rfl rfl (gF hg36) (Pur.not rfl) ?_ | refine WL.gpur (u := 36) rfl rfl (gF hg36) (Pur.notB rfl) ?_
          exact K36 _ zcR rfl
        case h10_1 =>
          intro hg36 K36
          refine WL.gskip (u := 36) rfl rfl (sF hg36) ?_
          refine WL.gskip (u := 36) rfl rfl (sF hg36) ?_
          refine WL.gskip (u := 36) rfl rfl (sF hg36) ?_
          refine WL.gskip (u := 36) rfl rfl (sF hg36) ?_
          refine WL.gskip (u := 36) rfl rfl (sF hg36) ?_
          exact K36 _ zcR
        case h10_2 => exact Wanted.plain rfl
        refine WL.pur (Pur.assign rfl) ?_
        refine WL.nil ?_
        refine WQ.blk ?_
        refine WQ.thn ?_
        refine WC.region ?_
        refine WL.pur (Pur.move rfl) ?_
        refine' WL.pur (Pur.bin rfl rfl ?h12_0) ?k12
        case h12_0 => first | (refine Bin.addN (b := 1) ?_; omega) | (refine Bin.addI ?_; omega)
        refine WL.pur (Pur.assign rfl) ?_
        refine WL.nil ?_
        refine WQ.back _ ⟨j0 + 1, (¬ p j0 ∨ ¬ seesN L i j0 = true), inferInstance, rfl, by omega, by omega, topTo_succ hij (htp.1 hc1.2), rfl, rfl, rfl⟩ (by omega) zcV zsL
      · refine WC.exit ?_
        refine WQ.thn_exit ?_
        refine WQ.back_exit ?_
        refine WQ.blk_here ?_
        refine WQ.thn ?_
        refine WC.seq ?_
        refine WC.region ?_
        refine WL.pur (Pur.move rfl) ?_
        refine WL.nil ?_
        refine WQ.thn ?_
        first | refine WC.cond rfl (fun hc2 => ?_) (fun hc2 => ?_) | refine WC.condB rfl (fun hc2 => ?_) (fun hc2 => ?_)
        · have hjj : j0 = L.length := by
            refine Classical.byContradiction fun hc => ?_
            exact hc1 ⟨by omega, hc2⟩
          subst hjj
          have htop := (topTo_iff ho hpi).1 (htp.1 hc2)
          refine WC.region ?_
          refine' WL.pur (Pur.load1 rfl ty_32 ?h13_0) ?k13
          case h13_0 => first | (apply Rd.own1; exact zmE; rfl) | (apply RdV.rd; apply RdV.idx (i := 0); assumption; rfl)
          refine WL.pur (Pur.fieldAddr rfl fo_37_0) ?_
          refine' WL.pur (Pur.loadN rfl ty_31 ?h14_0 ?h14_1) ?k14
          case h14_0 => apply Rd.own_sub; exact zmE; exact Sub.ent_hash _ _ _ _ _
          case h14_1 => first | rfl | assumption
          refine WL.new (New.buildSliceN (xs := [.tmp 46]) (vss := [hashCells e.id]) sl_32 zc_31 rfl rfl rfl (by rfl) (by rfl)) (fun b47 => ?_)
          refine' WL.any (Any.push (H1 := [(b47, _), (b7, _), (b5, _)]) (H2 := (lq, rec1) :: Hq) sl_32 zc_31 rfl by_31 rfl rfl hso ?h15_0 ?h15_1 ?h15_2 ?h15_3 rfl (by omega) (by omega)) ?k15
          case h15_0 => apply Rd.own_sub; exact zmE; exact Sub.refl _
          case h15_1 => first | rfl | assumption
          case h15_2 => first | rfl | assumption
          case h15_3 => exact ⟨rfl, heH⟩
          rintro v48 σ _ ⟨hl2, hso2, rfl, rfl⟩ _
          have hsv2 := hso2.one_cell
          refine' WL.run0 (Run.store1 rfl rfl ty_32 (by first | rfl | assumption) ?h16_0 ?h16_1 sz_32) ?k16
          case h16_0 => repeat (first | exact Part.one | exact Part.here | apply Part.cons | apply Part.app)
          case h16_1 => first | exact Nat.le_of_ble_eq_true rfl | decide | (simp; done) | (simp; omega) | omega
          refine WL.nil ?_
          refine WQ.blk ?_
          exact hB _ _ _ _ (⟨_, _, by rw [topsN_yes htop, hid]; exact hso2, rfl, hlek⟩) (View.le_refl _) (by simp only [List.cons_append]; repeat (first | exact List.Sublist.refl _ | apply List.Sublist.cons_cons | apply List.Sublist.cons))
        · have htop : ¬ topP L p i := fun h => topTo_le (fun h2 => hc2 (htp.2 h2)) hj0 ((topTo_iff ho hpi).2 h)
          refine WC.skip ?_
          refine WQ.blk ?_
          exact hB _ _ _ _ (⟨_, _, by rw [topsN_no htop]; exact hso, rfl, hlek⟩) (View.le_refl _) (by simp only [List.cons_append]; repeat (first | exact List.Sublist.refl _ | apply List.Sublist.cons_cons | apply List.Sublist.cons))
  · intro D0 σ Hd hJ hled
    obtain ⟨sv5, hl5, hso, rfl, hleK⟩ := hJ
    rw [List.cons_append]
    refine WQ.blk ?_
    refine WQ.thn ?_
    refine WC.seq ?_
    refine WC.region ?_
    refine' WL.pur (Pur.load1 rfl ty_32 ?h17_0) ?k17
    case h17_0 => first | (apply Rd.own1; exact zmE; rfl) | (apply RdV.rd; apply RdV.idx (i := 0); assumption; rfl)
    refine WL.giveS (byt := 32) (H1 := [(b5, rowO 32 [sv5])]) (H2 := (D0, Obj.deferred (some [])) :: Hr) eHash_mono hso (by have := topsN_len L p L.length; omega) (by simp) (fun σ8 hle8 hK => ?_)
    rw [List.singleton_append]
    refine WL.call (H0 := []) (Hr := (b5, rowO 32 [sv5]) :: (D0, Obj.deferred (some [])) :: Hr) rfl Try.call63 (List.Perm.refl _) (sha_Sort _ _ _ hK (by have := topsN_len L p L.length; omega) (topsN_nodup ho p)) ?_
    rintro v50 σ9 _ ⟨hS9, rfl⟩ hle9
    rw [List.nil_append]
    obtain ⟨ta, tc, rfl, _, _⟩ := hS9.shape
    refine WL.pur (Pur.assign rfl) ?_
    refine WL.nil ?_
    refine WQ.thn ?_
    refine WC.ret ?_
    refine WQ.marks (.inl rfl) [D0] ((b5, rowO 32 [sv5]) :: Hr) (List.Perm.swap _ _ _) ?_
    refine WQ.ret1 Try.results48 rfl [] (List.Sublist.cons _ (List.Sublist.refl _)) (View.le_trans hle3 (View.le_trans hlea (View.le_trans hleK (View.le_trans hle8 hle9)))) ?_
    exact ⟨hS9, rfl⟩
  · intro e D σ' H' _ hJ _; exact hJ.elim

theorem past_Heads1 (σ : View) (i : Nat) :
    TriP Try.prog 49 #[.int .i64 (i : Int)] σ (.bool (decide True)) := by
  refine Tri.of_body [(0, .int .i64 (i : Int))] Try.func49 rfl Try.ntmps49 (by simp) rfl (fun Hr => ?_)
  rw [List.nil_append]
  refine WC.seq ?_
  refine WC.region ?_
  refine WL.pur (Pur.assign rfl) ?_
  refine WL.nil ?_
  refine WQ.thn ?_
  refine WC.seq ?_
  refine WC.region ?_
  refine WL.pur (Pur.assign rfl) ?_
  refine WL.nil ?_
  refine WQ.thn ?_
  refine WC.ret ?_
  refine WQ.ret1 Try.results49 rfl [] zsL (View.le_refl _) ?_
  refine ⟨?_, rfl, rfl⟩
  rfl

theorem past_Heads (σ : View) (pv : Value) (L : List EntD) (h : PastV σ pv L) (ho : OrdOk L) :
    Tri Try.prog 22 #[pv] σ [] (fun v σ' H' => Hashes σ' v (headsL L) ∧ H' = []) := by
  refine Tri.of_body [(0, pv)] Try.func22 rfl Try.ntmps22 (by simp) rfl (fun Hr => ?_)
  rw [List.nil_append]
  refine WC.seq ?_
  refine WC.region ?_
  refine WL.pur (Pur.assign rfl) ?_
  refine WL.nil ?_
  refine WQ.thn ?_
  refine WC.seq ?_
  refine WC.region ?_
  refine WL.pur (Pur.move rfl) ?_
  refine WL.call (H0 := []) (Hr := Hr) rfl Try.call48 (List.Perm.refl _) (past_tops _ _ L h ho 49 [] (fun _ => True) Try.call49 (fun σ1 _ i _ => past_Heads1 σ1 i)) ?_
  rintro v4 σ1 _ ⟨hK, rfl⟩ hle1
  rw [List.nil_append]
  rw [heads_tops ho] at hK
  obtain ⟨ka, kc, rfl, hkc, hkb⟩ := hK.shape
  refine WL.pur (Pur.assign rfl) ?_
  refine WL.nil ?_
  refine WQ.thn ?_
  refine WC.ret ?_
  refine WQ.ret1 Try.results22 rfl [] zsL hle1 ?_
  exact ⟨hK, rfl⟩

end Go.Proofs.Ytgoooilgmabkmaa
namespace Go.Proofs.Ytgoooilgmabkmaa
open Go Go.Sl
set_option linter.unusedVariables false
set_option linter.unusedSimpArgs false
set_option maxRecDepth 100000

theorem ents_isH {σ : View} {lv : Value} {L : List EntD} (h : Ents σ lv L) : ∀ e ∈ L, IsH e.id := by
  intro e he
  obtain ⟨i, hi⟩ := List.getElem?_of_mem he
  obtain ⟨a, c, rfl, _⟩ := h.shape
  obtain ⟨b, off, hb⟩ := addr_of h
  obtain ⟨_, _, _, hH, _⟩ := ent_rd h hb hi
  exact hH

theorem past_Len (σ : View) (pv : Value) (L : List EntD) (h : PastV σ pv L) :
    TriP Try.prog 11 #[pv] σ (.int .i64 (L.length : Int)) := by
  obtain ⟨b, mb, lv, sv, rfl, hr, hl, hm, hs⟩ := h
  obtain ⟨la, lc, rfl, hlc, hlb⟩ := hl.shape
  obtain ⟨sa, sc, rfl, hsc, hsb⟩ := hs.shape
  refine Tri.of_body [(0, .pointer (some ⟨b, 0, none⟩))] Try.func11 rfl Try.ntmps11 (by simp) rfl (fun Hr => ?_)
  rw [List.nil_append]
  refine WC.seq ?_
  refine WC.region ?_
  refine WL.pur (Pur.assign rfl) ?_
  refine WL.nil ?_
  refine WQ.thn ?_
  refine WC.seq ?_
  refine WC.region ?_
  refine WL.pur (Pur.move rfl) ?_
  refine WL.pur (Pur.nilCheck rfl) ?_
  refine WL.pur (Pur.fieldAddr rfl fo_84_0) ?_
  refine' WL.pur (Pur.load1 rfl ty_23 ?h1_0) ?k1
  case h1_0 => first | (apply Rd.own1; exact zmE; rfl) | (apply RdV.rd; apply RdV.idx (i := 0); assumption; rfl)
  refine WL.pur (Pur.len rfl isSlice_23) ?_
  refine WL.pur (Pur.assign rfl) ?_
  refine WL.nil ?_
  refine WQ.thn ?_
  refine WC.ret ?_
  refine WQ.ret1 Try.results11 rfl [] zsL (View.le_refl _) ?_
  refine ⟨?_, rfl, rfl⟩
  rfl

theorem past_Number (σ : View) (pv : Value) (L : List EntD) (id : Nat) (h : PastV σ pv L) (hid : IsH id) :
    TriP Try.prog 23 #[pv, hashV id] σ (.int .i64 (numV (idxOf L id))) := by
  obtain ⟨b, mb, lv, sv, rfl, hr, hl, hm, hs⟩ := h
  have hok := ids_ok (ents_isH hl) 0
  have hmg := mget_ids0 L id
  obtain ⟨la, lc, rfl, hlc, hlb⟩ := hl.shape
  obtain ⟨sa, sc, rfl, hsc, hsb⟩ := hs.shape
  refine Tri.of_body [(0, .pointer (some ⟨b, 0, none⟩)), (1, hashV id)] Try.func23 rfl Try.ntmps23 (by simp) rfl (fun Hr => ?_)
  rw [List.nil_append]
  refine WC.seq ?_
  refine WC.region ?_
  refine WL.new (New.boxN rfl) (fun b3 => ?_)
  refine WL.pur (Pur.assign rfl) ?_
  refine WL.nil ?_
  refine WQ.thn ?_
  refine WC.seq ?_
  refine WC.seq ?_
  refine WC.drawH 11 11 mixed (by kernel_rfl) rfl ?_
  refine SA.take 0 (by kernel_rfl) rfl rfl rfl (Wanted.plain rfl) zsL (View.le_refl _) (Pur.move rfl) ?_
  refine SA.take 1 (by kernel_rfl) rfl rfl rfl (Wanted.plain rfl) zsL (View.le_refl _) (Pur.nilCheck rfl) ?_
  refine SA.take 2 (by kernel_rfl) rfl rfl rfl (Wanted.plain rfl) zsL (View.le_refl _) (Pur.fieldAddr rfl fo_84_1) ?_
  refine' SA.take 3 (by kernel_rfl) rfl rfl rfl (Wanted.plain rfl) zsL (View.le_refl _) (Pur.load1 rfl ty_77 ?h1_0) ?k1
  case h1_0 => first | (apply Rd.own1; exact zmE; rfl) | (apply RdV.rd; apply RdV.idx (i := 1); assumption; rfl) | (apply RdV.rd; apply RdV.idx (off := 0) (i := 1); assumption; rfl)
  refine' SA.take 4 (by kernel_rfl) rfl rfl rfl (Wanted.plain rfl) zsL (View.le_refl _) (Pur.loadN rfl ty_31 ?h2_0 ?h2_1) ?k2
  case h2_0 => first | (apply Rd.own_sub; exact zmE; exact Sub.refl _) | (apply RdV.rd; assumption)
  case h2_1 => first | rfl | assumption
  refine' SA.take 5 (by kernel_rfl) rfl rfl rfl (Wanted.plain rfl) zsL (View.le_refl _) (Pur.lookupOk rfl rfl mt_77 (K := hashV) (keyC_hash isHKey_31) zv_3 ?h3_0 ?h3_1 ?h3_2) ?k3
  case h3_0 => first | (right; assumption) | (left; focus repeat (first | exact List.Mem.head _ | apply List.Mem.tail | apply List.mem_append_right))
  case h3_1 => first | assumption | exact fun _ _ => trivial
  case h3_2 => first | assumption | trivial
  refine SA.take 6 (by kernel_rfl) rfl rfl rfl (Wanted.plain rfl) zsL (View.le_refl _) (Pur.move rfl) ?_
  first | refine SA.take 7 (by kernel_rfl) rfl rfl rfl (Wanted.plain rfl) zsL (View.le_refl _) (Pur.ex2_0 rfl) ?_ | refine SA.take 7 (by kernel_rfl) rfl rfl rfl (Wanted.plain rfl) zsL (View.le_refl _) (Pur.ex3_0 rfl) ?_ | refine SA.take 7 (by kernel_rfl) rfl rfl rfl (Wanted.plain rfl) zsL (View.le_refl _) (Pur.extractNext rfl) ?_ | refine SA.take 7 (by kernel_rfl) rfl rfl rfl (Wanted.plain rfl) zsL (View.le_refl _) (Pur.extract rfl rfl) ?_
  first | refine SA.take 8 (by kernel_rfl) rfl rfl rfl (Wanted.plain rfl) zsL (View.le_refl _) (Pur.ex2_1 rfl) ?_ | refine SA.take 8 (by kernel_rfl) rfl rfl rfl (Wanted.plain rfl) zsL (View.le_refl _) (Pur.ex3_1 rfl) ?_ | refine SA.take 8 (by kernel_rfl) rfl rfl rfl (Wanted.plain rfl) zsL (View.le_refl _) (Pur.extract rfl rfl) ?_
  refine SA.take 9 (by kernel_rfl) rfl rfl rfl (Wanted.plain rfl) zsL (View.le_refl _) (Pur.assign rfl) ?_
  refine SA.take 10 (by kernel_rfl) rfl rfl rfl (Wanted.plain rfl) zsL (View.le_refl _) (Pur.assign rfl) ?_
  refine SA.done (by kernel_rfl) ?_
  refine WQ.thn ?_
  refine WC.seq ?_
  refine WC.region ?_
  refine WL.pur (Pur.move rfl) ?_
  refine WL.nil ?_
  refine WQ.thn ?_
  first | refine WC.cond rfl (fun hc0 => ?_) (fun hc0 => ?_) | refine WC.condB rfl (fun hc0 => ?_) (fun hc0 => ?_)
  · obtain ⟨k, hk⟩ : ∃ k, idxOf L id = some k := by cases hx : idxOf L id with | none => rw [hx] at hmg; rw [hmg] at hc0; cases hc0 | some k => exact ⟨k, rfl⟩
    rw [hk] at hmg
    refine WC.seq ?_
    refine WC.region ?_
    refine WL.pur (Pur.move rfl) ?_
    refine WL.pur (Pur.assign rfl) ?_
    refine WL.nil ?_
    refine WQ.thn ?_
    refine WC.ret ?_
    refine WQ.thn_ret ?_
    refine WQ.ret1 Try.results23 rfl [] zsL (View.le_refl _) ?_
    refine ⟨?_, rfl, rfl⟩
    rw [hmg, hk]; rfl
  · have hk : idxOf L id = none := by cases hx : idxOf L id with | none => rfl | some k => rw [hx] at hmg; rw [hmg] at hc0; cases hc0
    refine WC.skip ?_
    refine WQ.thn ?_
    refine WC.seq ?_
    refine WC.region ?_
    refine WL.pur (Pur.assign rfl) ?_
    refine WL.nil ?_
    refine WQ.thn ?_
    refine WC.ret ?_
    refine WQ.ret1 Try.results23 rfl [] zsL (View.le_refl _) ?_
    refine ⟨?_, rfl, rfl⟩
    rw [hk]; rfl

theorem past_Entry (σ : View) (pv : Value) (L : List EntD) (i : Int) (h : PastV σ pv L) :
    Tri Try.prog 12 #[pv, .int .i64 i] σ [] (fun v σ' H' => ((∃ (k : Nat) (e : EntD) (qv ov : Value), i = (k : Int) ∧ L[k]? = some e ∧ v = .tuple #[.agg (entCells e.id e.node.au e.node.cl qv ov).toArray, .int .i64 0] ∧ NodeR σ' e.node qv ov) ∨ ((i < 0 ∨ (L.length : Int) ≤ i) ∧ v = .tuple #[.agg (entCells 0 0 0 (.slice none 0 0) (.slice none 0 0)).toArray, .int .i64 2])) ∧ H' = []) := by
  obtain ⟨b, mb, lv, sv, rfl, hr, hl, hm, hs⟩ := h
  obtain ⟨la, lc, rfl, hlc, hlb⟩ := hl.shape
  obtain ⟨sa, sc, rfl, hsc, hsb⟩ := hs.shape
  obtain ⟨ab, aoff, hel⟩ := addr_of hl
  refine Tri.of_body [(0, .pointer (some ⟨b, 0, none⟩)), (1, .int .i64 i)] Try.func12 rfl Try.ntmps12 (by simp) rfl (fun Hr => ?_)
  rw [List.nil_append]
  refine WC.seq ?_
  refine WC.region ?_
  refine WL.new (New.alloc zc_37) (fun b4 => ?_)
  refine WL.pur (Pur.assign rfl) ?_
  refine WL.nil ?_
  refine WQ.thn ?_
  refine WC.seq ?_
  refine WC.seq ?_
  refine WC.region ?_
  refine WL.pur (Pur.move rfl) ?_
  refine' WL.pur (Pur.bin rfl rfl ?h1_0) ?k1
  case h1_0 => first | exact Bin.ltN (b := 0) | exact Bin.ltI | exact Bin.ltS
  refine WL.pur (Pur.move rfl) ?_
  refine' WL.orp (u := 8) (t := 16) rfl ?h2_0 ?h2_1 ?h2_2 rfl ?k2
  case h2_0 =>
    intro hg8 K8
    refine WL.gpur (u := 8) rfl rfl (gF hg8) (Pur.move rfl) ?_
    refine WL.gpur (u := 8) rfl rfl (gF hg8) (Pur.move rfl) ?_
    refine WL.gpur (u := 8) rfl rfl (gF hg8) (Pur.nilCheck rfl) ?_
    refine WL.gpur (u := 8) rfl rfl (gF hg8) (Pur.fieldAddr rfl fo_84_0) ?_
    refine' WL.gpur (u := 8) rfl rfl (gF hg8) (Pur.load1 rfl ty_23 ?h3_0) ?k3
    case h3_0 => first | (apply Rd.own1; exact zmE; rfl) | (apply RdV.rd; apply RdV.idx (i := 0); assumption; rfl)
    refine WL.gpur (u := 8) rfl rfl (gF hg8) (Pur.len rfl isSlice_23) ?_
    refine' WL.gpur (u := 8) rfl rfl (gF hg8) (Pur.bin rfl rfl ?h4_0) ?k4
    case h4_0 => first | exact Bin.geN | exact Bin.geI
    exact K8 _ zcR rfl
  case h2_1 =>
    intro hg8 K8
    refine WL.gskip (u := 8) rfl rfl (sF hg8) ?_
    refine WL.gskip (u := 8) rfl rfl (sF hg8) ?_
    refine WL.gskip (u := 8) rfl rfl (sF hg8) ?_
    refine WL.gskip (u := 8) rfl rfl (sF hg8) ?_
    refine WL.gskip (u := 8) rfl rfl (sF hg8) ?_
    refine WL.gskip (u := 8) rfl rfl (sF hg8) ?_
    refine WL.gskip (u := 8) rfl rfl (sF hg8) ?_
    exact K8 _ zcR
  case h2_2 => exact Wanted.plain rfl
  refine WL.nil ?_
  refine WQ.thn ?_
  first | refine WC.cond rfl (fun hc0 => ?_) (fun hc0 => ?_) | refine WC.condB rfl (fun hc0 => ?_) (fun hc0 => ?_)
  · refine WC.seq ?_
    refine WC.region ?_
    refine WL.pur (Pur.build (l := (entCells 0 0 0 (.slice none 0 0) (.slice none 0 0))) pl_37 zc_37 rfl rfl) ?_
    refine' WL.run0 (Run.storeAll rfl rfl ty_37 ?h5_0 (by first | rfl | assumption) ?h5_1 (by first | rfl | assumption)) ?k5
    case h5_0 => repeat (first | exact Part.one | exact Part.here | apply Part.cons | apply Part.app)
    case h5_1 => first | rfl | assumption
    refine WL.pur (Pur.assign rfl) ?_
    refine WL.nil ?_
    refine WQ.thn ?_
    refine WC.ret ?_
    refine WQ.thn_ret ?_
    refine' WQ.retCT Try.results12 rfl rfl ty_37 ?h6_0 ?h6_1 [] zsL (View.le_refl _) ?k6
    case h6_0 => apply Rd.own_sub; exact zmE; exact Sub.refl _
    case h6_1 => rfl
    exact ⟨.inr ⟨by omega, rfl⟩, rfl⟩
  · obtain ⟨k, rfl⟩ : ∃ k : Nat, i = (k : Int) := Int.eq_ofNat_of_zero_le (by omega)
    obtain ⟨e, he⟩ : ∃ e, L[k]? = some e := ⟨_, List.getElem?_eq_getElem (by omega)⟩
    obtain ⟨qv, ov, hrd, heH, hNR⟩ := ent_rd hl hel he
    obtain ⟨pa, pc, rfl, hpc, hpb⟩ := hNR.1.shape
    obtain ⟨oa, oc, rfl, hoc, hob⟩ := hNR.2.1.shape
    refine WC.skip ?_
    refine WQ.thn ?_
    refine WC.seq ?_
    refine WC.region ?_
    refine WL.pur (Pur.move rfl) ?_
    refine WL.pur (Pur.nilCheck rfl) ?_
    refine WL.pur (Pur.fieldAddr rfl fo_84_0) ?_
    refine' WL.pur (Pur.load1 rfl ty_23 ?h7_0) ?k7
    case h7_0 => first | (apply Rd.own1; exact zmE; rfl) | (apply RdV.rd; apply RdV.idx (i := 0); assumption; rfl)
    refine WL.pur (Pur.move rfl) ?_
    refine' WL.pur (Pur.indexAddr (eqA (hel (by omega))) rfl sl_23 ?h8_0) ?k8
    case h8_0 => omega
    refine' WL.pur (Pur.loadN rfl ty_37 ?h9_0 ?h9_1) ?k9
    case h9_0 => exact RdV.rd hrd
    case h9_1 => first | rfl | assumption
    refine WL.call (H0 := []) (Hr := (b4, _) :: Hr) rfl Try.call38 (List.Perm.refl _) (past_own _ _ _ _ _ hNR) ?_
    rintro _ σ1 _ ⟨⟨qv2, ov2, rfl, hN2⟩, rfl⟩ hle1
    rw [List.nil_append]
    obtain ⟨pa2, pc2, rfl, _⟩ := hN2.1.shape
    obtain ⟨oa2, oc2, rfl, _⟩ := hN2.2.1.shape
    refine' WL.run0 (Run.storeAll rfl rfl ty_37 ?h10_0 (by first | rfl | assumption) ?h10_1 (by first | rfl | assumption)) ?k10
    case h10_0 => repeat (first | exact Part.one | exact Part.here | apply Part.cons | apply Part.app)
    case h10_1 => first | rfl | assumption
    refine WL.pur (Pur.assign rfl) ?_
    refine WL.nil ?_
    refine WQ.thn ?_
    refine WC.ret ?_
    refine' WQ.retCT Try.results12 rfl rfl ty_37 ?h11_0 ?h11_1 [] zsL hle1 ?k11
    case h11_0 => apply Rd.own_sub; exact zmE; exact Sub.refl _
    case h11_1 => rfl
    exact ⟨.inl ⟨k, e, _, _, rfl, he, rfl, hN2⟩, rfl⟩

end Go.Proofs.Ytgoooilgmabkmaa
namespace Go.Proofs.Ytgoooilgmabkmaa
open Go Go.Sl
set_option linter.unusedVariables false
set_option linter.unusedSimpArgs false
set_option maxRecDepth 100000

theorem rowB_new {N : Nat} {Q : Nat → Prop} [DecidablePred Q] (h : ∀ j, ¬ Q j) : List.replicate N (Value.bool false) = (List.range N).map (fun j => Value.bool (decide (Q j))) := by
  rw [replicate_range]
  exact map_range_congr fun j _ => by simp [h j]
theorem rowB_put1 {N k : Nat} {Q Q' : Nat → Prop} [DecidablePred Q] [DecidablePred Q'] (h : ∀ j, j < N → (Q' j ↔ Q j ∨ j = k)) : (List.range N).map (fun j => if j = k then Value.bool true else Value.bool (decide (Q j))) = (List.range N).map (fun j => Value.bool (decide (Q' j))) :=
  map_range_congr fun j hj => by
    by_cases hk : j = k
    · rw [if_pos hk]; exact boolT ((h j hj).2 (.inr hk))
    · rw [if_neg hk]; exact decB ⟨fun hq => (h j hj).2 (.inl hq), fun hq => ((h j hj).1 hq).resolve_right hk⟩
theorem rowB_put {N k : Nat} {Q Q' : Nat → Prop} {p : Prop} [DecidablePred Q] [DecidablePred Q'] [Decidable p] (h1 : Q' k ↔ p) (h2 : ∀ j, j ≠ k → (Q' j ↔ Q j)) : (List.range N).map (fun j => if j = k then Value.bool (decide p) else Value.bool (decide (Q j))) = (List.range N).map (fun j => Value.bool (decide (Q' j))) :=
  map_range_congr fun j _ => by
    by_cases hk : j = k
    · rw [if_pos hk]; subst hk; exact decB h1.symm
    · rw [if_neg hk]; exact decB (h2 j hk).symm
theorem rowB_congr {N : Nat} {Q Q' : Nat → Prop} [DecidablePred Q] [DecidablePred Q'] (h : ∀ j, j < N → (Q j ↔ Q' j)) : (List.range N).map (fun j => Value.bool (decide (Q j))) = (List.range N).map (fun j => Value.bool (decide (Q' j))) :=
  map_range_congr fun j hj => decB (h j hj)
theorem allH_snoc {L : List EntD} {hs : List Nat} {i h k : Nat} (hh : hs[i]? = some h) (hk : idxOf L h = some k) (ha : allH L (hs.take i)) : allH L (hs.take (i + 1)) := by
  rw [List.take_add_one, hh]
  intro x hx
  rcases List.mem_append.1 hx with hx | hx
  · exact ha x hx
  · simp at hx; subst hx; rw [hk]; simp
theorem inH_same {L : List EntD} (ho : OrdOk L) {hs : List Nat} {i h k : Nat} (hh : hs[i]? = some h) (hk : idxOf L h = some k) (hin : inH L (hs.take i) k) (j : Nat) : inH L (hs.take i) j ↔ inH L (hs.take (i + 1)) j := by
  rw [List.take_add_one, hh, Option.toList_some, inH_snoc hk]
  constructor
  · exact .inl
  · rintro (h1 | rfl | h1)
    · exact h1
    · exact hin
    · exact inH_closed ho _ j k hin h1
theorem inH_next {L : List EntD} (ho : OrdOk L) {hs : List Nat} {i h k : Nat} (hh : hs[i]? = some h) (hk : idxOf L h = some k) (j : Nat) : (inH L (hs.take i) j ∨ j = k ∨ (j < k ∧ seesN L j k = true)) ↔ inH L (hs.take (i + 1)) j := by
  rw [List.take_add_one, hh, Option.toList_some, inH_snoc hk]
  constructor
  · rintro (h1 | h1 | h1)
    · exact .inl h1
    · exact .inr (.inl h1)
    · exact .inr (.inr h1.2)
  · rintro (h1 | h1 | h1)
    · exact .inl h1
    · exact .inr (.inl h1)
    · exact .inr (.inr ⟨(sees_lt ho h1).1, h1⟩)
theorem numV_some {o : Option Nat} (h : ¬ numV o < 0) : ∃ k, o = some k ∧ numV o = (k : Int) := by
  cases o with
  | none => exact absurd (by simp [numV]) h
  | some k => exact ⟨k, rfl, rfl⟩

set_option maxHeartbeats 2000000 in
theorem past_under (σ : View) (pv hv : Value) (L : List EntD) (hs : List Nat) (h : PastV σ pv L) (ho : OrdOk L) (hh : Hashes σ hv hs) :
    Tri Try.prog 40 #[pv, hv] σ [] (fun v σ' H' => σ' = σ ∧ ((allH L hs ∧ ∃ b, v = .tuple #[.slice (some ⟨b, 0, none⟩) L.length L.length, .int .i64 0] ∧ H' = [(b, rowO 4 ((List.range L.length).map (fun j => Value.bool (decide (inH L hs j)))))]) ∨ (¬ allH L hs ∧ v = .tuple #[.slice none 0 0, .int .i64 6] ∧ H' = []))) := by
  have h' := h
  have hmost := ho.most
  obtain ⟨b, mb, lv, sv, rfl, hr, hl, hm, hsn⟩ := h
  obtain ⟨la, lc, rfl, hlc, hlb⟩ := hl.shape
  obtain ⟨ha, hc, rfl, hhc, hhb⟩ := hh.shape
  obtain ⟨hb, hoff, heh, hhat⟩ := hh.rds
  refine Tri.of_body [(0, .pointer (some ⟨b, 0, none⟩)), (1, .slice ha hs.length hc)] Try.func40 rfl Try.ntmps40 (by simp) rfl (fun Hr => ?_)
  rw [List.nil_append]
  refine WC.seq ?_
  refine WC.region ?_
  refine WL.pur (Pur.assign rfl) ?_
  refine WL.pur (Pur.assign rfl) ?_
  refine WL.nil ?_
  refine WQ.thn ?_
  refine WC.seq ?_
  refine WC.region ?_
  refine WL.pur (Pur.move rfl) ?_
  refine WL.pur (Pur.nilCheck rfl) ?_
  refine WL.pur (Pur.fieldAddr rfl fo_84_0) ?_
  refine' WL.pur (Pur.load1 rfl ty_23 ?h1_0) ?k1
  case h1_0 => exact RdV.rd (RdV.idx (off := 0) (i := 0) hr rfl)
  refine WL.pur (Pur.len rfl isSlice_23) ?_
  refine WL.any (Any.make1 sl_42 zc_4 by_4 rfl rfl (by omega) (by omega)) ?_
  rintro _ σ _ ⟨b16, rfl, rfl, rfl⟩ _
  refine WL.pur (Pur.assign rfl) ?_
  refine WL.nil ?_
  refine WQ.thn ?_
  refine WC.seq ?_
  refine WC.seq ?_
  refine WC.region ?_
  refine WL.pur (Pur.move rfl) ?_
  refine WL.pur (Pur.len rfl isSlice_32) ?_
  refine WL.pur (Pur.move rfl) ?_
  refine WL.nil ?_
  refine WQ.thn ?_
  refine WC.block ?_
  rw [rowB_new (N := L.length) (Q := inH L (hs.take 0)) (fun j => by rw [List.take_zero]; exact inH_nil L j)]
  refine WC.loop (fun j m σ' H' => ∃ i : Nat, j = hs.length - i ∧ i ≤ hs.length ∧ allH L (hs.take i) ∧ m = [(0, .pointer (some ⟨b, 0, none⟩)), (6, .slice (some ⟨b16, 0, none⟩) L.length L.length), (17, .slice ha hs.length hc), (18, .int .i64 (hs.length : Int)), (19, .int .i64 (i : Int))] ∧ σ' = σ ∧ H' = (b16, rowO 4 ((List.range L.length).map (fun j => Value.bool (decide (inH L (hs.take i) j))))) :: Hr) ⟨0, rfl, by omega, by rw [List.take_zero]; intro x hx; simp at hx, rfl, rfl, rfl⟩ zcV zsL ?_
  rintro _ _ σ Hr ⟨i, rfl, hi, hal, rfl, rfl, rfl⟩
  refine WC.seq ?_
  refine WC.region ?_
  refine' WL.pur (Pur.bin rfl rfl ?h2_0) ?k2
  case h2_0 => first | exact Bin.ltN | exact Bin.ltI | exact Bin.ltS
  refine WL.nil ?_
  refine WQ.thn ?_
  refine WC.seq ?_
  first | refine WC.cond rfl (fun hc0 => ?_) (fun hc0 => ?_) | refine WC.condB rfl (fun hc0 => ?_) (fun hc0 => ?_)
  · obtain ⟨x, hx⟩ : ∃ x, hs[i]? = some x := ⟨_, List.getElem?_eq_getElem (by omega)⟩
    obtain ⟨_, _, _, ⟨rfl, hxh⟩, hxr⟩ := hhat i x hx
    refine WC.skip ?_
    refine WQ.thn ?_
    refine WC.seq ?_
    refine WC.block ?_
    refine WC.seq ?_
    refine WC.region ?_
    refine' WL.pur (Pur.indexAddr (eqA (heh (by omega))) rfl sl_32 ?h3_0) ?k3
    case h3_0 => omega
    refine' WL.pur (Pur.loadN rfl ty_31 ?h4_0 ?h4_1) ?k4
    case h4_0 => exact RdV.rd hxr
    case h4_1 => first | rfl | assumption
    refine WL.new (New.alloc zc_31) (fun b8 => ?_)
    refine' WL.run0 (Run.storeAll rfl rfl ty_31 ?h5_0 (by first | rfl | assumption) ?h5_1 (by first | rfl | assumption)) ?k5
    case h5_0 => repeat (first | exact Part.one | exact Part.here | apply Part.cons | apply Part.app)
    case h5_1 => first | rfl | assumption
    refine WL.nil ?_
    refine WQ.thn ?_
    refine WC.seq ?_
    refine WC.region ?_
    refine WL.pur (Pur.move rfl) ?_
    refine' WL.pur (Pur.loadN rfl ty_31 ?h6_0 ?h6_1) ?k6
    case h6_0 => first | (apply Rd.own_sub; exact zmE; exact Sub.refl _) | (apply RdV.rd; assumption)
    case h6_1 => first | rfl | assumption
    refine WL.callP rfl Try.call23 ((past_Number _ _ L x h' hxh)) ?_
    refine WL.pur (Pur.assign rfl) ?_
    refine WL.nil ?_
    refine WQ.thn ?_
    refine WC.seq ?_
    refine WC.seq ?_
    refine WC.region ?_
    refine WL.pur (Pur.move rfl) ?_
    refine' WL.pur (Pur.bin rfl rfl ?h7_0) ?k7
    case h7_0 => first | exact Bin.ltN (b := 0) | exact Bin.ltI | exact Bin.ltS
    refine WL.nil ?_
    refine WQ.thn ?_
    first | refine WC.cond rfl (fun hc1 => ?_) (fun hc1 => ?_) | refine WC.condB rfl (fun hc1 => ?_) (fun hc1 => ?_)
    · have hno : ¬ allH L hs := fun ha => ha x (List.mem_of_getElem? hx) (numV_none.1 hc1)
      refine WC.seq ?_
      refine WC.region ?_
      refine WL.pur (Pur.assign rfl) ?_
      refine WL.pur (Pur.assign rfl) ?_
      refine WL.nil ?_
      refine WQ.thn ?_
      refine WC.ret ?_
      refine WQ.thn_ret ?_
      refine WQ.blk_ret ?_
      refine WQ.thn_ret ?_
      refine WQ.back_ret ?_
      refine WQ.blk_ret ?_
      refine WQ.thn_ret ?_
      refine WQ.ret2 Try.results40 rfl rfl [] zsL (View.le_refl _) ?_
      exact ⟨rfl, .inr ⟨hno, rfl, rfl⟩⟩
    · obtain ⟨k, hk, hnk⟩ := numV_some hc1
      rw [hnk]
      have hkl := idxOf_lt hk
      refine WC.skip ?_
      refine WQ.thn ?_
      refine WC.seq ?_
      refine WC.seq ?_
      refine WC.region ?_
      refine WL.pur (Pur.move rfl) ?_
      refine WL.pur (Pur.move rfl) ?_
      refine' WL.pur (Pur.indexAddr rfl rfl sl_42 ?h8_0) ?k8
      case h8_0 => omega
      refine' WL.pur (Pur.load1 rfl ty_4 ?h9_0) ?k9
      case h9_0 => apply Rd.own1; exact zmE; exact get_range_map1 hkl
      refine WL.nil ?_
      refine WQ.thn ?_
      first | refine WC.cond rfl (fun hc2 => ?_) (fun hc2 => ?_) | refine WC.condB rfl (fun hc2 => ?_) (fun hc2 => ?_)
      · have hin0 : inH L (hs.take i) k := hc2
        have inH_same_ho : ∀ j, j < L.length → (inH L (hs.take i) j ↔ inH L (hs.take (i + 1)) j) := fun j _ => inH_same ho hx hk hin0 j
        refine WC.exit ?_
        refine WQ.thn_exit ?_
        refine WQ.blk_here ?_
        refine WQ.thn ?_
        refine WC.region ?_
        refine' WL.pur (Pur.bin rfl rfl ?h10_0) ?k10
        case h10_0 => first | (refine Bin.addN (b := 1) ?_; omega) | (refine Bin.addI ?_; omega)
        refine WL.pur (Pur.move rfl) ?_
        refine WL.nil ?_
        rw [rowB_congr inH_same_ho]
        refine WQ.back _ ⟨i + 1, rfl, by omega, allH_snoc hx hk hal, rfl, rfl, rfl⟩ (by omega) zcV zsL
      · have inH_next_ho : ∀ j, j < L.length → ((inH L (hs.take i) j ∨ j = k ∨ (j < k ∧ seesN L j k = true)) ↔ inH L (hs.take (i + 1)) j) := fun j _ => inH_next ho hx hk j
        refine WC.skip ?_
        refine WQ.thn ?_
        refine WC.seq ?_
        refine WC.region ?_
        refine WL.pur (Pur.move rfl) ?_
        refine WL.pur (Pur.move rfl) ?_
        refine' WL.pur (Pur.indexAddr rfl rfl sl_42 ?h11_0) ?k11
        case h11_0 => omega
        refine' WL.run0 (Run.storeF rfl rfl ty_4 (by first | rfl | assumption) ?h12_0 ?h12_1 sz_4) ?k12
        case h12_0 => repeat (first | exact Part.one | exact Part.here | apply Part.cons | apply Part.app)
        case h12_1 => first | assumption | omega
        refine WL.nil ?_
        refine WQ.thn ?_
        refine WC.seq ?_
        refine WC.region ?_
        refine WL.pur (Pur.move rfl) ?_
        refine WL.pur (Pur.move rfl) ?_
        refine WL.nil ?_
        refine WQ.thn ?_
        refine WC.block ?_
        rw [rowB_put1 (N := L.length) (k := k) (Q := fun j => inH L (hs.take i) j) (Q' := fun j => inH L (hs.take i) j ∨ j = k ∨ (j < 0 ∧ seesN L j k = true)) (fun j _ => by constructor; rintro (h1 | h1 | h1); exact .inl h1; exact .inr h1; omega; rintro (h1 | h1); exact .inl h1; exact .inr (.inl h1))]
        refine WC.loop (fun j m σ' H' => ∃ c : Nat, j = k - c ∧ c ≤ k ∧ m = [(0, .pointer (some ⟨b, 0, none⟩)), (6, .slice (some ⟨b16, 0, none⟩) L.length L.length), (17, .slice ha hs.length hc), (18, .int .i64 (hs.length : Int)), (19, .int .i64 (i : Int)), (9, .int .i64 (k : Int)), (35, .int .i64 (k : Int)), (36, .int .i64 (c : Int))] ∧ σ' = σ ∧ H' = (b16, rowO 4 ((List.range L.length).map (fun j => Value.bool (decide (inH L (hs.take i) j ∨ j = k ∨ (j < c ∧ seesN L j k = true)))))) :: Hr) ⟨0, rfl, by omega, rfl, rfl, rfl⟩ zcV zsL ?_
        rintro _ _ σ Hr ⟨c, rfl, hc2, rfl, rfl, rfl⟩
        refine WC.seq ?_
        refine WC.region ?_
        refine' WL.pur (Pur.bin rfl rfl ?h13_0) ?k13
        case h13_0 => first | exact Bin.ltN | exact Bin.ltI | exact Bin.ltS
        refine WL.nil ?_
        refine WQ.thn ?_
        refine WC.seq ?_
        first | refine WC.cond rfl (fun hc3 => ?_) (fun hc3 => ?_) | refine WC.condB rfl (fun hc3 => ?_) (fun hc3 => ?_)
        · refine WC.skip ?_
          refine WQ.thn ?_
          refine WC.seq ?_
          refine WC.block ?_
          refine WC.seq ?_
          refine WC.region ?_
          refine WL.pur (Pur.move rfl) ?_
          refine WL.pur (Pur.assign rfl) ?_
          refine WL.nil ?_
          refine WQ.thn ?_
          refine WC.region ?_
          refine WL.pur (Pur.move rfl) ?_
          refine WL.pur (Pur.move rfl) ?_
          refine WL.pur (Pur.move rfl) ?_
          refine WL.pur (Pur.move rfl) ?_
          refine' WL.pur (Pur.indexAddr rfl rfl sl_42 ?h14_0) ?k14
          case h14_0 => omega
          refine' WL.pur (Pur.load1 rfl ty_4 ?h15_0) ?k15
          case h15_0 => apply Rd.own1; exact zmE; exact get_range_map1 (show c < L.length by omega)
          refine WL.pur (Pur.move rfl) ?_
          refine' WL.orp (u := 45) (t := 50) rfl ?h16_0 ?h16_1 ?h16_2 rfl ?k16
          case h16_0 =>
            intro hg45 K45
            refine WL.gpur (u := 45) rfl rfl (gF hg45) (Pur.move rfl) ?_
            refine WL.gpur (u := 45) rfl rfl (gF hg45) (Pur.move rfl) ?_
            refine WL.gpur (u := 45) rfl rfl (gF hg45) (Pur.move rfl) ?_
            refine WL.gcallP (u := 45) rfl rfl (gF hg45) rfl Try.call25 ((past_Sees _ _ L c k h' ho hkl (by omega))) ?_
            exact K45 _ zcR rfl
          case h16_1 =>
            intro hg45 K45
            refine WL.gskip (u := 45) rfl rfl (sF hg45) ?_
            refine WL.gskip (u := 45) rfl rfl (sF hg45) ?_
            refine WL.gskip (u := 45) rfl rfl (sF hg45) ?_
            refine WL.gskip (u := 45) rfl rfl (sF hg45) ?_
            exact K45 _ zcR
          case h16_2 => exact Wanted.plain rfl
          refine' WL.pur (Pur.indexAddr rfl rfl sl_42 ?h17_0) ?k17
          case h17_0 => omega
          refine' WL.run0 (Run.storeF rfl rfl ty_4 (by first | rfl | assumption) ?h18_0 ?h18_1 sz_4) ?k18
          case h18_0 => repeat (first | exact Part.one | exact Part.here | apply Part.cons | apply Part.app)
          case h18_1 => first | assumption | omega
          refine WL.nil ?_
          refine WQ.blk ?_
          refine WQ.thn ?_
          refine WC.region ?_
          refine' WL.pur (Pur.bin rfl rfl ?h19_0) ?k19
          case h19_0 => first | (refine Bin.addN (b := 1) ?_; omega) | (refine Bin.addI ?_; omega)
          refine WL.pur (Pur.move rfl) ?_
          refine WL.nil ?_
          rw [rowB_put (N := L.length) (k := c) (Q := fun j => inH L (hs.take i) j ∨ j = k ∨ (j < c ∧ seesN L j k = true)) (Q' := fun j => inH L (hs.take i) j ∨ j = k ∨ (j < (c + 1) ∧ seesN L j k = true)) (by constructor; rintro (h1 | h1 | h1); exact .inl (.inl h1); exact .inl (.inr (.inl h1)); exact .inr h1.2; rintro ((h1 | h1 | h1) | h1); exact .inl h1; exact .inr (.inl h1); exact .inr (.inr ⟨by omega, h1.2⟩); exact .inr (.inr ⟨by omega, h1⟩)) (fun j hj => by constructor; rintro (h1 | h1 | h1); exact .inl h1; exact .inr (.inl h1); exact .inr (.inr ⟨by omega, h1.2⟩); rintro (h1 | h1 | h1); exact .inl h1; exact .inr (.inl h1); exact .inr (.inr ⟨by omega, h1.2⟩))]
          refine WQ.back _ ⟨c + 1, rfl, by omega, rfl, rfl, rfl⟩ (by omega) zcV zsL
        · have hck : c = k := by omega
          subst hck
          refine WC.exit ?_
          refine WQ.thn_exit ?_
          refine WQ.back_exit ?_
          refine WQ.blk_here ?_
          refine WQ.blk ?_
          refine WQ.thn ?_
          refine WC.region ?_
          refine' WL.pur (Pur.bin rfl rfl ?h20_0) ?k20
          case h20_0 => first | (refine Bin.addN (b := 1) ?_; omega) | (refine Bin.addI ?_; omega)
          refine WL.pur (Pur.move rfl) ?_
          refine WL.nil ?_
          rw [rowB_congr inH_next_ho]
          refine WQ.back _ ⟨i + 1, rfl, by omega, allH_snoc hx hk hal, rfl, rfl, rfl⟩ (by omega) zcV zsL
  · have hii : i = hs.length := by omega
    subst hii
    rw [List.take_length] at hal ⊢
    refine WC.exit ?_
    refine WQ.thn_exit ?_
    refine WQ.back_exit ?_
    refine WQ.blk_here ?_
    refine WQ.thn ?_
    refine WC.seq ?_
    refine WC.region ?_
    refine WL.pur (Pur.move rfl) ?_
    refine WL.pur (Pur.assign rfl) ?_
    refine WL.pur (Pur.assign rfl) ?_
    refine WL.nil ?_
    refine WQ.thn ?_
    refine WC.ret ?_
    refine WQ.ret2 Try.results40 rfl rfl [(b16, rowO 4 ((List.range L.length).map (fun j => Value.bool (decide (inH L hs j)))))] zsL (View.le_refl _) ?_
    exact ⟨rfl, .inl ⟨hal, b16, rfl, rfl⟩⟩

end Go.Proofs.Ytgoooilgmabkmaa
namespace Go.Proofs.Ytgoooilgmabkmaa
open Go Go.Sl
set_option linter.unusedVariables false
set_option linter.unusedSimpArgs false
set_option maxRecDepth 100000

theorem past_under3 (σ : View) (pv hv : Value) (L : List EntD) (hs : List Nat) (h : PastV σ pv L) (ho : OrdOk L) (hh : Hashes σ hv hs) :
    Tri Try.prog 40 #[pv, hv] σ [] (fun v _ H' => ∃ sa sn sc ev, v = .tuple #[.slice sa sn sc, .int .i64 ev] ∧ ((ev = 0 ∧ allH L hs ∧ ∃ b, sa = some ⟨b, 0, none⟩ ∧ sn = L.length ∧ sc = L.length ∧ H' = [(b, rowO 4 ((List.range L.length).map (fun j => Value.bool (decide (inH L hs j)))))]) ∨ (ev = 6 ∧ ¬ allH L hs ∧ H' = []))) := by
  refine (past_under σ pv hv L hs h ho hh).mono ?_
  rintro v σ' H' ⟨rfl, ⟨ha, b, rfl, rfl⟩ | ⟨ha, rfl, rfl⟩⟩
  · exact ⟨_, _, _, _, rfl, .inl ⟨rfl, ha, b, rfl, rfl, rfl, rfl⟩⟩
  · exact ⟨_, _, _, _, rfl, .inr ⟨rfl, ha, rfl⟩⟩
theorem WL_giveR {P : Program} {r : Option Nat} {ops : Array Oper} {Q : Exit → Act → World → Prop} {l : List Oper} {n : Nat} {d : List Deferred} {m : Slots} {σ : View} {H1 H2 : HList} {b : Nat} {o : Obj} (h : ∀ σ', σ.le σ' → σ' b = some o → WL P r ops Q l n d m σ' (H1 ++ H2)) : WL P r ops Q l n d m σ (H1 ++ (b, o) :: H2) :=
  WL.give fun hb => h _ (View.le_add _ hb) (View.add_same _ _ _)
theorem rd_bools {σ : View} {b n i : Nat} {q : Nat → Prop} [DecidablePred q] (h : RdV σ b 0 ((List.range n).map (fun j => Value.bool (decide (q j))))) (hi : i < n) : RdV σ b (0 + i * 1) [Value.bool (decide (q i))] := by
  rw [Nat.mul_one]
  exact RdV.idx (i := i) h (by simp [hi])
/-- under both of two -/
def bothP (L : List EntD) (a b : Nat) (i : Nat) : Prop := inH L [a] i ∧ inH L [b] i
instance (L : List EntD) (a b : Nat) : DecidablePred (bothP L a b) := fun i => by unfold bothP; infer_instance
theorem inH_one {L : List EntD} {a k : Nat} (h : idxOf L a = some k) (i : Nat) : inH L [a] i ↔ (i = k ∨ seesN L i k = true) := by
  have := inH_snoc (hs := []) h i
  rw [List.nil_append] at this
  rw [this]
  exact ⟨fun h => h.resolve_left (inH_nil L i), .inr⟩
theorem bothP_iff {L : List EntD} {a b k1 k2 : Nat} (h1 : idxOf L a = some k1) (h2 : idxOf L b = some k2) (i : Nat) : bothP L a b i ↔ (i = k1 ∨ seesN L i k1 = true) ∧ (i = k2 ∨ seesN L i k2 = true) := by
  unfold bothP
  rw [inH_one h1, inH_one h2]
theorem allH_one {L : List EntD} {a : Nat} : allH L [a] ↔ idxOf L a ≠ none := by
  unfold allH
  exact ⟨fun h => h a (by simp), fun h x hx => by simp at hx; subst hx; exact h⟩
theorem topsN_congr {L : List EntD} {p q : Nat → Prop} [DecidablePred p] [DecidablePred q] (h : ∀ j, p j ↔ q j) (n : Nat) : topsN L p n = topsN L q n := by
  unfold topsN
  refine congrArg _ (List.filter_congr fun i _ => ?_)
  refine decide_eq_decide.2 ?_
  unfold topP
  rw [h i]
  exact and_congr_right fun _ => forall_congr' fun k => imp_congr_right fun _ => by rw [h k]
/-- those that no other has seen, by rising names -/
def rankS (L : List EntD) (p : Nat → Prop) [DecidablePred p] (s : Nat) : List Nat := (((rankL L 0 L.length).take s).filter fun i => decide (topP L p i)).map (idAt L)
theorem rankS_zero (L : List EntD) (p : Nat → Prop) [DecidablePred p] : rankS L p 0 = [] := by simp [rankS]
theorem rankS_yes {L : List EntD} {p : Nat → Prop} [DecidablePred p] {s k : Nat} (h : (rankL L 0 L.length)[s]? = some k) (hp : topP L p k) : rankS L p (s + 1) = rankS L p s ++ [idAt L k] := by
  unfold rankS
  rw [List.take_add_one, h, Option.toList_some, List.filter_append, List.map_append]
  simp [hp]
theorem rankS_no {L : List EntD} {p : Nat → Prop} [DecidablePred p] {s k : Nat} (h : (rankL L 0 L.length)[s]? = some k) (hp : ¬ topP L p k) : rankS L p (s + 1) = rankS L p s := by
  unfold rankS
  rw [List.take_add_one, h, Option.toList_some, List.filter_append, List.map_append]
  simp [hp]
theorem rankS_len (L : List EntD) (p : Nat → Prop) [DecidablePred p] (s : Nat) : (rankS L p s).length ≤ L.length := by
  unfold rankS
  rw [List.length_map]
  refine Nat.le_trans (List.length_filter_le _ _) ?_
  rw [List.length_take, rankL_len]
  omega
theorem rankS_all {L : List EntD} (ho : OrdOk L) {p : Nat → Prop} [DecidablePred p] {s : Nat} (h : (rankL L 0 L.length).length ≤ s) : rankS L p s = sortN (topsN L p L.length) := by
  refine rises_ext _ _ ?_ (sortN_rises (topsN_nodup ho _)) fun x => ?_
  · have hnd : (rankS L p s).Nodup := by
      unfold rankS
      rw [List.take_of_length_le h]
      rw [List.Nodup, List.pairwise_map]
      have h0 : (rankL L 0 L.length).Nodup := (rankL_perm L _ 0 L.length rfl).nodup_iff.2 (List.nodup_range' (step := 1))
      refine List.Pairwise.imp_of_mem ?_ (h0.sublist List.filter_sublist)
      intro a b ha hb hab he
      have ha := (rankL_mem.1 (List.mem_filter.1 ha).1).2
      have hb := (rankL_mem.1 (List.mem_filter.1 hb).1).2
      have e1 := idxOf_of ho.nodup (List.getElem?_eq_getElem ha)
      have e2 := idxOf_of ho.nodup (List.getElem?_eq_getElem hb)
      rw [← idAt_of (List.getElem?_eq_getElem ha)] at e1
      rw [← idAt_of (List.getElem?_eq_getElem hb), ← he, e1] at e2
      exact hab (Option.some.inj e2)
    refine nodup_rises hnd ?_
    unfold rankS
    rw [List.take_of_length_le h]
    rw [List.pairwise_map]
    exact List.Pairwise.imp (fun h => by simpa [leId] using h) ((rankL_sorted L _ 0 L.length rfl).sublist List.filter_sublist)
  · rw [(sortN_perm _).mem_iff, mem_topsN]
    unfold rankS
    rw [List.take_of_length_le h]
    simp only [List.mem_map, List.mem_filter, rankL_mem, Nat.zero_le, true_and, and_assoc, decide_eq_true_eq]

theorem past_Common1 (σ : View) (L : List EntD) (b8 b10 bo bn i : Nat) (qa qb : Nat → Prop) [DecidablePred qa] [DecidablePred qb] (h8 : RdV σ b8 0 [.slice (some ⟨bo, 0, none⟩) L.length L.length]) (h10 : RdV σ b10 0 [.slice (some ⟨bn, 0, none⟩) L.length L.length]) (ho : RdV σ bo 0 ((List.range L.length).map (fun j => Value.bool (decide (qa j))))) (hn : RdV σ bn 0 ((List.range L.length).map (fun j => Value.bool (decide (qb j))))) (hi : i < L.length) (hm : L.length ≤ 4096) :
    TriP Try.prog 50 #[.int .i64 (i : Int), .pointer (some ⟨b8, 0, none⟩), .pointer (some ⟨b10, 0, none⟩)] σ (.bool (decide (qa i ∧ qb i))) := by
  refine Tri.of_body [(0, .int .i64 (i : Int)), (1, .pointer (some ⟨b8, 0, none⟩)), (2, .pointer (some ⟨b10, 0, none⟩))] Try.func50 rfl Try.ntmps50 (by simp) rfl (fun Hr => ?_)
  rw [List.nil_append]
  refine WC.seq ?_
  refine WC.region ?_
  refine WL.pur (Pur.assign rfl) ?_
  refine WL.nil ?_
  refine WQ.thn ?_
  refine WC.seq ?_
  refine WC.region ?_
  refine' WL.pur (Pur.load1 rfl ty_42 ?h1_0) ?k1
  case h1_0 => exact RdV.rd h8
  refine WL.pur (Pur.move rfl) ?_
  refine' WL.pur (Pur.indexAddr rfl rfl sl_42 ?h2_0) ?k2
  case h2_0 => omega
  refine' WL.pur (Pur.load1 rfl ty_4 ?h3_0) ?k3
  case h3_0 => exact RdV.rd (rd_bools ho hi)
  refine WL.pur (Pur.move rfl) ?_
  refine' WL.andp (u := 9) (t := 14) rfl ?h4_0 ?h4_1 ?h4_2 rfl ?k4
  case h4_0 =>
    intro hg9 K9
    refine' WL.gpur (u := 9) rfl rfl (gT hg9) (Pur.load1 rfl ty_42 ?h5_0) ?k5
    case h5_0 => exact RdV.rd h10
    refine WL.gpur (u := 9) rfl rfl (gT hg9) (Pur.move rfl) ?_
    refine' WL.gpur (u := 9) rfl rfl (gT hg9) (Pur.indexAddr rfl rfl sl_42 ?h6_0) ?k6
    case h6_0 => omega
    refine' WL.gpur (u := 9) rfl rfl (gT hg9) (Pur.load1 rfl ty_4 ?h7_0) ?k7
    case h7_0 => exact RdV.rd (rd_bools hn hi)
    exact K9 _ zcR rfl
  case h4_1 =>
    intro hg9 K9
    refine WL.gskip (u := 9) rfl rfl (sT hg9) ?_
    refine WL.gskip (u := 9) rfl rfl (sT hg9) ?_
    refine WL.gskip (u := 9) rfl rfl (sT hg9) ?_
    refine WL.gskip (u := 9) rfl rfl (sT hg9) ?_
    exact K9 _ zcR
  case h4_2 => exact Wanted.plain rfl
  refine WL.pur (Pur.assign rfl) ?_
  refine WL.nil ?_
  refine WQ.thn ?_
  refine WC.ret ?_
  refine WQ.ret1 Try.results50 rfl [] zsL (View.le_refl _) ?_
  refine ⟨?_, rfl, rfl⟩
  rfl

set_option maxHeartbeats 2000000 in
theorem past_Common (σ : View) (pv : Value) (L : List EntD) (a b : Nat) (h : PastV σ pv L) (ho : OrdOk L) (ha : IsH a) (hb : IsH b) :
    Tri Try.prog 26 #[pv, hashV a, hashV b] σ [] (fun v σ' H' => (∃ sv ev, v = .tuple #[sv, .int .i64 ev] ∧ ((ev = 0 ∧ allH L [a] ∧ allH L [b] ∧ Hashes σ' sv (sortN (topsN L (bothP L a b) L.length))) ∨ (ev = 6 ∧ ¬ (allH L [a] ∧ allH L [b]) ∧ sv = .slice none 0 0))) ∧ H' = []) := by
  have h' := h
  have hmost := ho.most
  obtain ⟨pb, mb, lv, sv, rfl, hr, hl, hm, hs⟩ := h
  have hca := hashCells_length a
  have hcb := hashCells_length b
  refine Tri.of_body [(0, .pointer (some ⟨pb, 0, none⟩)), (1, hashV a), (2, hashV b)] Try.func26 rfl Try.ntmps26 (by simp) rfl (fun Hr => ?_)
  rw [List.nil_append]
  refine WC.seq ?_
  refine WC.region ?_
  refine WL.new (New.boxN rfl) (fun b4 => ?_)
  refine WL.new (New.boxN rfl) (fun b5 => ?_)
  refine WL.pur (Pur.assign rfl) ?_
  refine WL.pur (Pur.assign rfl) ?_
  refine WL.nil ?_
  refine WQ.thn ?_
  refine WC.seq ?_
  refine WC.region ?_
  refine WL.pur (Pur.move rfl) ?_
  refine' WL.pur (Pur.loadN rfl ty_31 ?h1_0 ?h1_1) ?k1
  case h1_0 => first | (apply Rd.own_sub; exact zmE; exact Sub.refl _) | (apply RdV.rd; assumption)
  case h1_1 => first | rfl | assumption
  refine WL.new (New.buildSliceN (xs := [.tmp 13]) (vss := [_]) sl_32 zc_31 rfl rfl rfl (by rfl) (by rfl)) (fun b14 => ?_)
  refine WL.call (H0 := [(b14, _)]) (Hr := (b5, _) :: (b4, _) :: Hr) rfl Try.call40 (List.Perm.refl _) ((SlO.row (T := 31) (b := b14) (ElR.single (E := eHash) (sz := 32) (x := a) rfl rfl ⟨rfl, ha⟩)).hand (byt := 32) eHash_mono (by simp) (fun σ' hl' hs' => past_under3 σ' _ _ L [a] (h'.mono hl') ho hs')) ?_
  rintro _ σ1 HU ⟨svo, so2, so3, ev, rfl, hor⟩ hle1
  refine WL.pur (Pur.move rfl) ?_
  first | refine WL.pur (Pur.ex2_0 rfl) ?_ | refine WL.pur (Pur.ex3_0 rfl) ?_ | refine WL.pur (Pur.extractNext rfl) ?_ | refine WL.pur (Pur.extract rfl rfl) ?_
  first | refine WL.pur (Pur.ex2_1 rfl) ?_ | refine WL.pur (Pur.ex3_1 rfl) ?_ | refine WL.pur (Pur.extract rfl rfl) ?_
  refine WL.new (New.alloc zc_42) (fun b8 => ?_)
  refine' WL.run0 (Run.store1 rfl rfl ty_42 (by first | rfl | assumption) ?h2_0 ?h2_1 sz_42) ?k2
  case h2_0 => repeat (first | exact Part.one | exact Part.here | apply Part.cons | apply Part.app)
  case h2_1 => first | exact Nat.le_of_ble_eq_true rfl | decide | (simp; done) | (simp; omega) | omega
  refine WL.pur (Pur.assign rfl) ?_
  refine WL.nil ?_
  refine WQ.thn ?_
  refine WC.seq ?_
  refine WC.seq ?_
  refine WC.region ?_
  refine WL.pur (Pur.move rfl) ?_
  refine' WL.pur (Pur.bin rfl rfl ?h3_0) ?k3
  case h3_0 => first | exact Bin.neN (b := 0) | exact Bin.neI
  refine WL.nil ?_
  refine WQ.thn ?_
  first | refine WC.cond rfl (fun hc0 => ?_) (fun hc0 => ?_) | refine WC.condB rfl (fun hc0 => ?_) (fun hc0 => ?_)
  · obtain ⟨rfl, hno, rfl⟩ := hor.resolve_left (fun h => hc0 h.1)
    refine WC.seq ?_
    refine WC.region ?_
    refine WL.pur (Pur.move rfl) ?_
    refine WL.pur (Pur.assign rfl) ?_
    refine WL.pur (Pur.assign rfl) ?_
    refine WL.nil ?_
    refine WQ.thn ?_
    refine WC.ret ?_
    refine WQ.thn_ret ?_
    refine WQ.ret2 Try.results26 rfl rfl [] (by repeat (first | exact List.Sublist.refl _ | apply List.Sublist.cons)) hle1 ?_
    exact ⟨⟨_, _, rfl, .inr ⟨rfl, fun h => hno h.1, rfl⟩⟩, rfl⟩
  · obtain ⟨rfl, hal, bo, rfl, rfl, rfl, rfl⟩ := hor.resolve_right (fun h => hc0 (by rw [h.1]; decide))
    try rw [List.singleton_append]
    refine WC.skip ?_
    refine WQ.thn ?_
    refine WC.seq ?_
    refine WC.region ?_
    refine WL.pur (Pur.move rfl) ?_
    refine' WL.pur (Pur.loadN rfl ty_31 ?h4_0 ?h4_1) ?k4
    case h4_0 => first | (apply Rd.own_sub; exact zmE; exact Sub.refl _) | (apply RdV.rd; assumption)
    case h4_1 => first | rfl | assumption
    refine WL.new (New.buildSliceN (xs := [.tmp 23]) (vss := [_]) sl_32 zc_31 rfl rfl rfl (by rfl) (by rfl)) (fun b24 => ?_)
    refine WL.call (H0 := [(b24, _)]) (Hr := (b8, _) :: (bo, rowO 4 ((List.range L.length).map (fun j => Value.bool (decide (inH L [a] j))))) :: (b5, _) :: (b4, _) :: Hr) rfl Try.call40 (List.Perm.refl _) ((SlO.row (T := 31) (b := b24) (ElR.single (E := eHash) (sz := 32) (x := b) rfl rfl ⟨rfl, hb⟩)).hand (byt := 32) eHash_mono (by simp) (fun σ' hl' hs' => past_under3 σ' _ _ L [b] (h'.mono (View.le_trans hle1 hl')) ho hs')) ?_
    rintro _ σ2 HU2 ⟨svn, sn2, sn3, ev2, rfl, hor2⟩ hle2
    refine WL.pur (Pur.move rfl) ?_
    first | refine WL.pur (Pur.ex2_0 rfl) ?_ | refine WL.pur (Pur.ex3_0 rfl) ?_ | refine WL.pur (Pur.extractNext rfl) ?_ | refine WL.pur (Pur.extract rfl rfl) ?_
    first | refine WL.pur (Pur.ex2_1 rfl) ?_ | refine WL.pur (Pur.ex3_1 rfl) ?_ | refine WL.pur (Pur.extract rfl rfl) ?_
    refine WL.new (New.alloc zc_42) (fun b10 => ?_)
    refine' WL.run0 (Run.store1 rfl rfl ty_42 (by first | rfl | assumption) ?h5_0 ?h5_1 sz_42) ?k5
    case h5_0 => repeat (first | exact Part.one | exact Part.here | apply Part.cons | apply Part.app)
    case h5_1 => first | exact Nat.le_of_ble_eq_true rfl | decide | (simp; done) | (simp; omega) | omega
    refine WL.pur (Pur.assign rfl) ?_
    refine WL.nil ?_
    refine WQ.thn ?_
    refine WC.seq ?_
    refine WC.seq ?_
    refine WC.region ?_
    refine WL.pur (Pur.move rfl) ?_
    refine' WL.pur (Pur.bin rfl rfl ?h6_0) ?k6
    case h6_0 => first | exact Bin.neN (b := 0) | exact Bin.neI
    refine WL.nil ?_
    refine WQ.thn ?_
    first | refine WC.cond rfl (fun hc1 => ?_) (fun hc1 => ?_) | refine WC.condB rfl (fun hc1 => ?_) (fun hc1 => ?_)
    · obtain ⟨rfl, hno, rfl⟩ := hor2.resolve_left (fun h => hc1 h.1)
      refine WC.seq ?_
      refine WC.region ?_
      refine WL.pur (Pur.move rfl) ?_
      refine WL.pur (Pur.assign rfl) ?_
      refine WL.pur (Pur.assign rfl) ?_
      refine WL.nil ?_
      refine WQ.thn ?_
      refine WC.ret ?_
      refine WQ.thn_ret ?_
      refine WQ.ret2 Try.results26 rfl rfl [] (by repeat (first | exact List.Sublist.refl _ | apply List.Sublist.cons)) (View.le_trans hle1 hle2) ?_
      exact ⟨⟨_, _, rfl, .inr ⟨rfl, fun h => hno h.2, rfl⟩⟩, rfl⟩
    · obtain ⟨rfl, hal2, bn, rfl, rfl, rfl, rfl⟩ := hor2.resolve_right (fun h => hc1 (by rw [h.1]; decide))
      try rw [List.singleton_append]
      refine WC.skip ?_
      refine WQ.thn ?_
      refine WC.seq ?_
      refine WC.region ?_
      refine WL_giveR (H1 := []) (H2 := _) (fun σ3 r10_l hb_ => ?_)
      rw [List.nil_append]
      have r10 : RdV σ3 b10 0 [.slice (some ⟨bn, 0, none⟩) L.length L.length] := RdV.row hb_
      refine WL_giveR (H1 := []) (H2 := _) (fun σ4 rn_l hb_ => ?_)
      rw [List.nil_append]
      have rn : RdV σ4 bn 0 ((List.range L.length).map (fun j => Value.bool (decide (inH L [b] j)))) := RdV.row hb_
      refine WL_giveR (H1 := []) (H2 := _) (fun σ5 r8_l hb_ => ?_)
      rw [List.nil_append]
      have r8 : RdV σ5 b8 0 [.slice (some ⟨bo, 0, none⟩) L.length L.length] := RdV.row hb_
      refine WL_giveR (H1 := []) (H2 := _) (fun σ6 ro_l hb_ => ?_)
      rw [List.nil_append]
      have ro : RdV σ6 bo 0 ((List.range L.length).map (fun j => Value.bool (decide (inH L [a] j)))) := RdV.row hb_
      have r8 := r8.mono ro_l
      have rn := rn.mono (View.le_trans r8_l ro_l)
      have r10 := r10.mono (View.le_trans rn_l (View.le_trans r8_l ro_l))
      have hle7 := View.le_trans hle1 (View.le_trans hle2 (View.le_trans r10_l (View.le_trans rn_l (View.le_trans r8_l ro_l))))
      refine WL.pur (Pur.move rfl) ?_
      refine WL.pur (Pur.makeFunc rfl rfl) ?_
      refine WL.call (H0 := []) (Hr := (b5, _) :: (b4, _) :: Hr) rfl Try.call48 (List.Perm.refl _) (past_tops _ _ L (h'.mono hle7) ho 50 [.pointer (some ⟨b8, 0, none⟩), .pointer (some ⟨b10, 0, none⟩)] (bothP L a b) Try.call50 (fun σ1 hls i hi => past_Common1 σ1 L b8 b10 bo bn i (inH L [a]) (inH L [b]) (r8.mono hls) (r10.mono hls) (ro.mono hls) (rn.mono hls) hi hmost)) ?_
      rintro v33 σ8 _ ⟨hK, rfl⟩ hle8
      rw [List.nil_append]
      obtain ⟨ka, kc, rfl, hkc, hkb⟩ := hK.shape
      refine WL.pur (Pur.assign rfl) ?_
      refine WL.pur (Pur.assign rfl) ?_
      refine WL.nil ?_
      refine WQ.thn ?_
      refine WC.ret ?_
      refine WQ.ret2 Try.results26 rfl rfl [] (by repeat (first | exact List.Sublist.refl _ | apply List.Sublist.cons)) (View.le_trans hle7 hle8) ?_
      exact ⟨⟨_, _, rfl, .inl ⟨rfl, hal, hal2, hK⟩⟩, rfl⟩

end Go.Proofs.Ytgoooilgmabkmaa
namespace Go.Proofs.Ytgoooilgmabkmaa
open Go Go.Sl
set_option linter.unusedVariables false
set_option linter.unusedSimpArgs false
set_option maxRecDepth 100000

theorem numV_neg {o : Option Nat} : numV o < 0 ↔ o = none := by
  cases o with
  | none => simp [numV]
  | some k => simp [numV]
theorem mcl_max {l : List EntD} {ps : List Nat} {q p k : Nat} {e : EntD} (hp : ps[q]? = some p) (hk : idxOf l p = some k) (he : l[k]? = some e) : mcl l (ps.take (q + 1)) = max (mcl l (ps.take q)) e.node.cl := by
  rw [mcl_take hp]; unfold clAt; rw [hk]; simp [he]

end Go.Proofs.Ytgoooilgmabkmaa
namespace Go.Proofs.Ytgoooilgmabkmaa
open Go Go.Sl
set_option linter.unusedVariables false
set_option linter.unusedSimpArgs false
set_option maxRecDepth 100000

theorem row_in {N i : Nat} {f : Nat → Nat} {g : Nat → Value} (hg : ∀ k, k < N → g k = .int .i64 ((if k < i then f k else 0 : Nat) : Int)) : ∀ k, k < N → g k = .int .i64 ((if k < i then f k else if k = i then 0 else 0 : Nat) : Int) := fun k hk => by
  rw [hg k hk]; congr 2; split; rfl; split <;> rfl
theorem row_step {N i q : Nat} {f : Nat → Nat} {g : Nat → Value} (hg : ∀ k, k < N → g k = .int .i64 ((if k < i then f k else if k = i then q else 0 : Nat) : Int)) : ∀ k, k < N → (if k = i then (.int .i64 ((q + 1 : Nat) : Int)) else g k) = .int .i64 ((if k < i then f k else if k = i then q + 1 else 0 : Nat) : Int) := fun k hk => by
  by_cases h1 : k = i
  · subst h1; simp
  · rw [if_neg h1, hg k hk, if_neg h1, if_neg h1]
theorem row_out {N i q : Nat} {f : Nat → Nat} {g : Nat → Value} (hq : f i = q) (hg : ∀ k, k < N → g k = .int .i64 ((if k < i then f k else if k = i then q else 0 : Nat) : Int)) : ∀ k, k < N → g k = .int .i64 ((if k < i + 1 then f k else 0 : Nat) : Int) := fun k hk => by
  rw [hg k hk]; congr 2
  by_cases h1 : k < i
  · rw [if_pos h1, if_pos (by omega)]
  · by_cases h2 : k = i
    · subst h2; simp [hq]
    · rw [if_neg h1, if_neg h2, if_neg (by omega)]
theorem i64N {a b : Nat} (h : a = b) : Value.int .i64 (a : Int) = Value.int .i64 (b : Int) := by rw [h]

end Go.Proofs.Ytgoooilgmabkmaa
namespace Go.Proofs.Ytgoooilgmabkmaa
open Go Go.Sl
set_option linter.unusedVariables false
set_option linter.unusedSimpArgs false
set_option maxRecDepth 100000

end Go.Proofs.Ytgoooilgmabkmaa
namespace Go.Proofs.Ytgoooilgmabkmaa
open Go Go.Sl
set_option linter.unusedVariables false
set_option linter.unusedSimpArgs false
set_option maxRecDepth 100000

end Go.Proofs.Ytgoooilgmabkmaa
namespace Go.Proofs.Ytgoooilgmabkmaa
open Go Go.Sl
set_option linter.unusedVariables false
set_option linter.unusedSimpArgs false
set_option maxRecDepth 100000

theorem past_under2 (σ : View) (pv hv : Value) (L : List EntD) (hs : List Nat) (h : PastV σ pv L) (ho : OrdOk L) (hh : Hashes σ hv hs) :
    Tri Try.prog 40 #[pv, hv] σ [] (fun v σ' H' => σ' = σ ∧ ∃ sv ev, v = .tuple #[sv, .int .i64 ev] ∧ ((ev = 0 ∧ allH L hs ∧ ∃ b, sv = .slice (some ⟨b, 0, none⟩) L.length L.length ∧ H' = [(b, rowO 4 ((List.range L.length).map (fun j => Value.bool (decide (inH L hs j)))))]) ∨ (ev = 6 ∧ ¬ allH L hs ∧ H' = []))) := by
  refine (past_under σ pv hv L hs h ho hh).mono ?_
  rintro v σ' H' ⟨rfl, ⟨ha, b, rfl, rfl⟩ | ⟨ha, rfl, rfl⟩⟩
  · exact ⟨rfl, _, _, rfl, .inl ⟨rfl, ha, b, rfl, rfl⟩⟩
  · exact ⟨rfl, _, _, rfl, .inr ⟨rfl, ha, rfl⟩⟩
set_option maxHeartbeats 2000000 in
theorem past_At (σ : View) (pv hv : Value) (L : List EntD) (hs : List Nat) (h : PastV σ pv L) (h1 : OneOrd L) (hh : Hashes σ hv hs) :
    Tri Try.prog 17 #[pv, hv] σ [] (fun v σ' H' => (∃ pa ev, v = .tuple #[.pointer pa, .int .i64 ev] ∧ ((ev = 0 ∧ allH L hs ∧ PastV σ' (.pointer pa) (atL L (inH L hs) L.length)) ∨ (ev = 6 ∧ ¬ allH L hs ∧ pa = none))) ∧ H' = []) := by
  have h' := h
  have ho := h1.ok
  have hmost := ho.most
  obtain ⟨b, mb, lv, sv, rfl, hr, hl, hm, hsn⟩ := h
  obtain ⟨la, lc, rfl, hlc, hlb⟩ := hl.shape
  obtain ⟨lb, loff, hel⟩ := addr_of hl
  refine Tri.of_body [(0, .pointer (some ⟨b, 0, none⟩)), (1, hv)] Try.func17 rfl Try.ntmps17 (by simp) rfl (fun Hr => ?_)
  rw [List.nil_append]
  refine WC.seq ?_
  refine WC.region ?_
  refine WL.pur (Pur.assign rfl) ?_
  refine WL.pur (Pur.assign rfl) ?_
  refine WL.nil ?_
  refine WQ.thn ?_
  refine WC.seq ?_
  refine WC.region ?_
  refine WL.pur (Pur.move rfl) ?_
  refine WL.pur (Pur.move rfl) ?_
  refine WL.call (H0 := []) (Hr := Hr) rfl Try.call40 (List.Perm.refl _) (past_under2 _ _ _ L hs h' ho hh) ?_
  rintro _ σ HU ⟨rfl, svu, ev, rfl, hor⟩ _
  refine WL.pur (Pur.move rfl) ?_
  first | refine WL.pur (Pur.ex2_0 rfl) ?_ | refine WL.pur (Pur.ex3_0 rfl) ?_ | refine WL.pur (Pur.extractNext rfl) ?_ | refine WL.pur (Pur.extract rfl rfl) ?_
  first | refine WL.pur (Pur.ex2_1 rfl) ?_ | refine WL.pur (Pur.ex3_1 rfl) ?_ | refine WL.pur (Pur.extract rfl rfl) ?_
  refine WL.pur (Pur.assign rfl) ?_
  refine WL.pur (Pur.assign rfl) ?_
  refine WL.nil ?_
  refine WQ.thn ?_
  refine WC.seq ?_
  refine WC.seq ?_
  refine WC.region ?_
  refine WL.pur (Pur.move rfl) ?_
  refine' WL.pur (Pur.bin rfl rfl ?h1_0) ?k1
  case h1_0 => first | exact Bin.neN (b := 0) | exact Bin.neI
  refine WL.nil ?_
  refine WQ.thn ?_
  first | refine WC.cond rfl (fun hc0 => ?_) (fun hc0 => ?_) | refine WC.condB rfl (fun hc0 => ?_) (fun hc0 => ?_)
  · obtain ⟨rfl, hno, rfl⟩ := hor.resolve_left (fun h => hc0 h.1)
    refine WC.seq ?_
    refine WC.region ?_
    refine WL.pur (Pur.move rfl) ?_
    refine WL.pur (Pur.assign rfl) ?_
    refine WL.pur (Pur.assign rfl) ?_
    refine WL.nil ?_
    refine WQ.thn ?_
    refine WC.ret ?_
    refine WQ.thn_ret ?_
    refine WQ.ret2 Try.results17 rfl rfl [] (by first | exact List.Sublist.refl _ | exact List.Sublist.cons _ (List.Sublist.refl _)) (View.le_refl _) ?_
    exact ⟨⟨_, _, rfl, .inr ⟨rfl, hno, rfl⟩⟩, rfl⟩
  · obtain ⟨rfl, hal, bu, rfl, rfl⟩ := hor.resolve_right (fun h => hc0 (by rw [h.1]; decide))
    rw [List.singleton_append]
    refine WC.skip ?_
    refine WQ.thn ?_
    refine WC.seq ?_
    refine WC.region ?_
    refine WL.pur (Pur.assign rfl) ?_
    refine WL.nil ?_
    refine WQ.thn ?_
    refine WC.seq ?_
    refine WC.seq ?_
    refine WC.region ?_
    refine WL.pur (Pur.move rfl) ?_
    refine WL.pur (Pur.nilCheck rfl) ?_
    refine WL.pur (Pur.fieldAddr rfl fo_84_0) ?_
    refine' WL.pur (Pur.load1 rfl ty_23 ?h2_0) ?k2
    case h2_0 => exact RdV.rd (RdV.idx (off := 0) (i := 0) hr rfl)
    refine WL.pur (Pur.len rfl isSlice_23) ?_
    refine WL.pur (Pur.move rfl) ?_
    refine WL.nil ?_
    refine WQ.thn ?_
    refine WC.block ?_
    refine WC.loop (fun j m σ' H' => ∃ (i : Nat) (lv2 : Value) (hl2 : HList), j = L.length - i ∧ i ≤ L.length ∧ SlO σ' eEnt 37 36 lv2 (atL L (inH L hs) i) hl2 ∧ m = [(6, .slice (some ⟨bu, 0, none⟩) L.length L.length), (8, lv2), (23, .slice la L.length lc), (24, .int .i64 (L.length : Int)), (25, .int .i64 (i : Int))] ∧ σ' = σ ∧ H' = (bu, rowO 4 ((List.range L.length).map (fun j => Value.bool (decide (inH L hs j))))) :: (hl2 ++ Hr)) ⟨0, _, [], rfl, by omega, by rw [atL_zero]; exact SlO.nil, rfl, rfl, rfl⟩ zcV zsL ?_
    rintro _ _ σ Hr ⟨i, lv2, hl2, rfl, hi, hso, rfl, rfl, rfl⟩
    refine WC.seq ?_
    refine WC.region ?_
    refine' WL.pur (Pur.bin rfl rfl ?h3_0) ?k3
    case h3_0 => first | exact Bin.ltN | exact Bin.ltI | exact Bin.ltS
    refine WL.nil ?_
    refine WQ.thn ?_
    refine WC.seq ?_
    first | refine WC.cond rfl (fun hc1 => ?_) (fun hc1 => ?_) | refine WC.condB rfl (fun hc1 => ?_) (fun hc1 => ?_)
    · obtain ⟨e, he⟩ : ∃ e, L[i]? = some e := ⟨_, List.getElem?_eq_getElem (by omega)⟩
      obtain ⟨qv, ov, hrd, heH, hNR⟩ := ent_rd hl hel he
      obtain ⟨pa2, pc2, rfl, _, _⟩ := hNR.1.shape
      obtain ⟨oa2, oc2, rfl, _, _⟩ := hNR.2.1.shape
      have hal2 := atL_len (L := L) (q := inH L hs) i
      refine WC.skip ?_
      refine WQ.thn ?_
      refine WC.seq ?_
      refine WC.block ?_
      refine WC.seq ?_
      refine WC.region ?_
      refine WL.pur (Pur.move rfl) ?_
      refine' WL.pur (Pur.indexAddr (eqA (hel (by omega))) rfl sl_23 ?h4_0) ?k4
      case h4_0 => omega
      refine' WL.pur (Pur.loadN rfl ty_37 ?h5_0 ?h5_1) ?k5
      case h5_0 => exact RdV.rd hrd
      case h5_1 => first | rfl | assumption
      refine WL.new (New.alloc zc_37) (fun b10 => ?_)
      refine WL.pur (Pur.assign rfl) ?_
      refine' WL.run0 (Run.storeAll rfl rfl ty_37 ?h6_0 (by first | rfl | assumption) ?h6_1 (by first | rfl | assumption)) ?k6
      case h6_0 => repeat (first | exact Part.one | exact Part.here | apply Part.cons | apply Part.app)
      case h6_1 => first | rfl | assumption
      refine WL.nil ?_
      refine WQ.thn ?_
      refine WC.seq ?_
      refine WC.region ?_
      refine WL.pur (Pur.move rfl) ?_
      refine WL.pur (Pur.move rfl) ?_
      refine' WL.pur (Pur.indexAddr rfl rfl sl_42 ?h7_0) ?k7
      case h7_0 => omega
      refine' WL.pur (Pur.load1 rfl ty_4 ?h8_0) ?k8
      case h8_0 => apply Rd.own1; exact zmE; exact get_range_map1 (show i < L.length by omega)
      refine WL.nil ?_
      refine WQ.thn ?_
      first | refine WC.cond rfl (fun hc2 => ?_) (fun hc2 => ?_) | refine WC.condB rfl (fun hc2 => ?_) (fun hc2 => ?_)
      · refine WC.region ?_
        refine WL.pur (Pur.move rfl) ?_
        refine' WL.pur (Pur.loadN rfl ty_37 ?h9_0 ?h9_1) ?k9
        case h9_0 => first | (apply Rd.own_sub; exact zmE; exact Sub.refl _) | (apply RdV.rd; assumption)
        case h9_1 => first | rfl | assumption
        refine WL.new (New.buildSliceN (xs := [.tmp 35]) (vss := [entCells e.id e.node.au e.node.cl (.slice pa2 e.node.ps.length pc2) (.slice oa2 e.node.ops.length oc2)]) sl_23 zc_37 rfl rfl rfl (by rfl) (by rfl)) (fun b36 => ?_)
        refine' WL.any (Any.push (H1 := [(b36, _), (b10, _), (bu, rowO 4 ((List.range L.length).map (fun j => Value.bool (decide (inH L hs j)))))]) (H2 := Hr) sl_23 zc_37 rfl by_37 rfl rfl hso ?h10_0 ?h10_1 ?h10_2 ?h10_3 rfl (by omega) (by omega)) ?k10
        case h10_0 => apply Rd.own_sub; exact zmE; exact Sub.refl _
        case h10_1 => first | rfl | assumption
        case h10_2 => first | rfl | assumption
        case h10_3 => exact (show eEnt _ e _ from ⟨_, _, rfl, heH, hNR⟩)
        rintro v37 σ _ ⟨hl3, hso3, rfl, rfl⟩ _
        refine WL.pur (Pur.assign rfl) ?_
        refine WL.nil ?_
        refine WQ.blk ?_
        refine WQ.thn ?_
        refine WC.region ?_
        refine' WL.pur (Pur.bin rfl rfl ?h11_0) ?k11
        case h11_0 => first | (refine Bin.addN (b := 1) ?_; omega) | (refine Bin.addI ?_; omega)
        refine WL.pur (Pur.move rfl) ?_
        refine WL.nil ?_
        refine WQ.back _ ⟨i + 1, _, _, rfl, by omega, by rw [atL_succ he, if_pos hc2]; exact hso3, rfl, rfl, rfl⟩ (by omega) zcV zsL
      · refine WC.skip ?_
        refine WQ.blk ?_
        refine WQ.thn ?_
        refine WC.region ?_
        refine' WL.pur (Pur.bin rfl rfl ?h12_0) ?k12
        case h12_0 => first | (refine Bin.addN (b := 1) ?_; omega) | (refine Bin.addI ?_; omega)
        refine WL.pur (Pur.move rfl) ?_
        refine WL.nil ?_
        refine WQ.back _ ⟨i + 1, _, _, rfl, by omega, by rw [atL_succ he, if_neg hc2, List.append_nil]; exact hso, rfl, rfl, rfl⟩ (by omega) zcV zsL
    · have hii : i = L.length := by omega
      subst hii
      refine WC.exit ?_
      refine WQ.thn_exit ?_
      refine WQ.back_exit ?_
      refine WQ.blk_here ?_
      refine WQ.thn ?_
      refine WC.seq ?_
      refine WC.region ?_
      refine WL.pur (Pur.move rfl) ?_
      refine WL.call (H0 := hl2) (Hr := (bu, rowO 4 ((List.range L.length).map (fun j => Value.bool (decide (inH L hs j))))) :: Hr) rfl Try.call36 List.perm_middle (hso.hand (byt := 96) eEnt_mono (by have := atL_len (L := L) (q := inH L hs) L.length; omega) (fun σ' hl' hs' => past_made σ' _ _ hs' (oneOrd_at h1 (inH_closed ho hs)).ok)) ?_
      rintro v40 σ2 _ ⟨hpv, rfl⟩ hle2
      rw [List.nil_append]
      have hpv2 := hpv
      obtain ⟨pb2, _, _, _, rfl, _⟩ := hpv2
      refine WL.pur (Pur.assign rfl) ?_
      refine WL.pur (Pur.assign rfl) ?_
      refine WL.nil ?_
      refine WQ.thn ?_
      refine WC.ret ?_
      refine WQ.ret2 Try.results17 rfl rfl [] (by first | exact List.Sublist.refl _ | exact List.Sublist.cons _ (List.Sublist.refl _)) hle2 ?_
      exact ⟨⟨_, _, rfl, .inl ⟨rfl, hal, hpv⟩⟩, rfl⟩

end Go.Proofs.Ytgoooilgmabkmaa
namespace Go.Proofs.Ytgoooilgmabkmaa
open Go Go.Sl
set_option linter.unusedVariables false
set_option linter.unusedSimpArgs false
set_option maxRecDepth 100000

theorem WL_orK {P : Program} {r : Option Nat} {ops : Array Oper} {Q : Exit → Act → World → Prop} {n : Nat} {d : List Deferred} {m : Slots} {σ : View} {H : HList} {rest : List Oper} {u t : Tmp} {x : Operand} {ty : TypeId} {pos : String} {af : Array Edge} {g : Option (Nat × Bool)} {p : Prop} {_ip : Decidable p}
    (hu : get m u = some (.bool (decide p))) (hp : p)
    (hw : Wanted ops ⟨some t, .pick (.tmp u) (.const (.bool true)) x, ty, pos, af, g⟩ n d m) (htn : Nat.blt t n = true)
    (h : WL P r ops Q rest n d ((t, .bool (decide (p ∨ False))) :: m) σ H) : WL P r ops Q (⟨some t, .pick (.tmp u) (.const (.bool true)) x, ty, pos, af, g⟩ :: rest) n d m σ H := by
  refine WL.pickv (m1 := m) (Covers.refl m) hw (b := true) (by rw [hu]; simp [hp]) rfl htn ?_
  simpa [hp] using h
/-- who has seen whom, of any two numbers -/
def seesI (L : List EntD) (i j : Int) : Prop := 0 ≤ i ∧ 0 ≤ j ∧ seesN L i.toNat j.toNat = true
instance (L : List EntD) (i j : Int) : Decidable (seesI L i j) := by unfold seesI; infer_instance
/-- the names of some entries -/
def selN (L : List EntD) (q : Nat → Prop) [DecidablePred q] (n : Nat) : List Nat := ((List.range n).filter fun i => decide (q i)).map (idAt L)
theorem selN_zero (L : List EntD) (q : Nat → Prop) [DecidablePred q] : selN L q 0 = [] := by simp [selN]
theorem selN_yes {L : List EntD} {q : Nat → Prop} [DecidablePred q] {i : Nat} (h : q i) : selN L q (i + 1) = selN L q i ++ [idAt L i] := by
  unfold selN
  rw [List.range_succ, List.filter_append, List.map_append]
  simp [h]
theorem selN_no {L : List EntD} {q : Nat → Prop} [DecidablePred q] {i : Nat} (h : ¬ q i) : selN L q (i + 1) = selN L q i := by
  unfold selN
  rw [List.range_succ, List.filter_append, List.map_append]
  simp [h]
theorem selN_len (L : List EntD) (q : Nat → Prop) [DecidablePred q] (n : Nat) : (selN L q n).length ≤ n := by
  unfold selN
  rw [List.length_map]
  refine Nat.le_trans (List.length_filter_le _ _) ?_
  simp
/-- there now, not there then -/
def sinceP (L : List EntD) (os ns : List Nat) (i : Nat) : Prop := inH L ns i ∧ ¬ inH L os i
instance (L : List EntD) (os ns : List Nat) (i : Nat) : Decidable (sinceP L os ns i) := by unfold sinceP; infer_instance

theorem past_SeesO (σ : View) (pv : Value) (L : List EntD) (i j : Int) (h : PastV σ pv L) (ho : OrdOk L) (hij : i < 0 ∨ j < 0 ∨ (L.length : Int) ≤ j) :
    TriP Try.prog 25 #[pv, .int .i64 i, .int .i64 j] σ (.bool false) := by
  have hmost := ho.most
  obtain ⟨b, mb, lv, sv, rfl, hr, hl, hm, hs⟩ := h
  obtain ⟨la, lc, rfl, hlc, hlb⟩ := hl.shape
  refine Tri.of_body [(0, .pointer (some ⟨b, 0, none⟩)), (1, .int .i64 i), (2, .int .i64 j)] Try.func25 rfl Try.ntmps25 (by simp) rfl (fun Hr => ?_)
  rw [List.nil_append]
  refine WC.seq ?_
  refine WC.region ?_
  refine WL.pur (Pur.assign rfl) ?_
  refine WL.nil ?_
  refine WQ.thn ?_
  refine WC.seq ?_
  refine WC.seq ?_
  refine WC.region ?_
  refine WL.pur (Pur.move rfl) ?_
  refine' WL.pur (Pur.bin rfl rfl ?h1_0) ?k1
  case h1_0 => first | exact Bin.ltN (b := 0) | exact Bin.ltI | exact Bin.ltS
  refine WL.pur (Pur.move rfl) ?_
  refine' WL.orp (u := 9) (t := 12) rfl ?h2_0 ?h2_1 ?h2_2 rfl ?k2
  case h2_0 =>
    intro hg9 K9
    refine WL.gpur (u := 9) rfl rfl (gF hg9) (Pur.move rfl) ?_
    refine' WL.gpur (u := 9) rfl rfl (gF hg9) (Pur.bin rfl rfl ?h3_0) ?k3
    case h3_0 => first | exact Bin.ltN (b := 0) | exact Bin.ltI | exact Bin.ltS
    exact K9 _ zcR rfl
  case h2_1 =>
    intro hg9 K9
    refine WL.gskip (u := 9) rfl rfl (sF hg9) ?_
    refine WL.gskip (u := 9) rfl rfl (sF hg9) ?_
    exact K9 _ zcR
  case h2_2 => exact Wanted.plain rfl
  refine WL.pur (Pur.move rfl) ?_
  refine' WL.orp (u := 13) (t := 21) rfl ?h4_0 ?h4_1 ?h4_2 rfl ?k4
  case h4_0 =>
    intro hg13 K13
    refine WL.gpur (u := 13) rfl rfl (gF hg13) (Pur.move rfl) ?_
    refine WL.gpur (u := 13) rfl rfl (gF hg13) (Pur.move rfl) ?_
    refine WL.gpur (u := 13) rfl rfl (gF hg13) (Pur.nilCheck rfl) ?_
    refine WL.gpur (u := 13) rfl rfl (gF hg13) (Pur.fieldAddr rfl fo_84_0) ?_
    refine' WL.gpur (u := 13) rfl rfl (gF hg13) (Pur.load1 rfl ty_23 ?h5_0) ?k5
    case h5_0 => first | (apply Rd.own1; exact zmE; rfl) | (apply RdV.rd; apply RdV.idx (i := 0); assumption; rfl)
    refine WL.gpur (u := 13) rfl rfl (gF hg13) (Pur.len rfl isSlice_23) ?_
    refine' WL.gpur (u := 13) rfl rfl (gF hg13) (Pur.bin rfl rfl ?h6_0) ?k6
    case h6_0 => first | exact Bin.geN | exact Bin.geI
    exact K13 _ zcR rfl
  case h4_1 =>
    intro hg13 K13
    refine WL.gskip (u := 13) rfl rfl (sF hg13) ?_
    refine WL.gskip (u := 13) rfl rfl (sF hg13) ?_
    refine WL.gskip (u := 13) rfl rfl (sF hg13) ?_
    refine WL.gskip (u := 13) rfl rfl (sF hg13) ?_
    refine WL.gskip (u := 13) rfl rfl (sF hg13) ?_
    refine WL.gskip (u := 13) rfl rfl (sF hg13) ?_
    refine WL.gskip (u := 13) rfl rfl (sF hg13) ?_
    exact K13 _ zcR
  case h4_2 => exact Wanted.plain rfl
  refine WL.pur (Pur.move rfl) ?_
  refine WL.gskip (u := 22) rfl rfl (sF (by omega)) ?_
  refine WL.gskip (u := 22) rfl rfl (sF (by omega)) ?_
  refine WL.gskip (u := 22) rfl rfl (sF (by omega)) ?_
  refine WL.gskip (u := 22) rfl rfl (sF (by omega)) ?_
  refine WL.gskip (u := 22) rfl rfl (sF (by omega)) ?_
  refine WL.gskip (u := 22) rfl rfl (sF (by omega)) ?_
  refine WL.gskip (u := 22) rfl rfl (sF (by omega)) ?_
  refine WL.gskip (u := 22) rfl rfl (sF (by omega)) ?_
  refine WL.gskip (u := 22) rfl rfl (sF (by omega)) ?_
  refine WL.gskip (u := 22) rfl rfl (sF (by omega)) ?_
  refine WL.gskip (u := 22) rfl rfl (sF (by omega)) ?_
  refine WL_orK (u := 22) (t := 34) rfl (by omega) (Wanted.plain rfl) rfl ?_
  refine WL.nil ?_
  refine WQ.thn ?_
  first | refine WC.cond rfl (fun hc0 => ?_) (fun hc0 => ?_) | refine WC.condB rfl (fun hc0 => ?_) (fun hc0 => ?_)
  · refine WC.seq ?_
    refine WC.region ?_
    refine WL.pur (Pur.assign rfl) ?_
    refine WL.nil ?_
    refine WQ.thn ?_
    refine WC.ret ?_
    refine WQ.thn_ret ?_
    refine WQ.ret1 Try.results25 rfl [] zsL (View.le_refl _) ?_
    refine ⟨?_, rfl, rfl⟩
    rfl
  · exfalso; omega

theorem past_SeesB (σ : View) (pv : Value) (L : List EntD) (i j : Nat) (h : PastV σ pv L) (ho : OrdOk L) (hj : j < L.length) (hi : i ≤ 9223372036854775807) :
    TriP Try.prog 25 #[pv, .int .i64 (i : Int), .int .i64 (j : Int)] σ (.bool (decide (seesN L i j = true))) := by
  have hmost := ho.most
  obtain ⟨b, mb, lv, sv, rfl, hr, hl, hm, hs⟩ := h
  obtain ⟨la, lc, rfl, hlc, hlb⟩ := hl.shape
  obtain ⟨sb, soff, sc, rfl, hsc, hsb, hat⟩ := hs.at (by simp; omega)
  have hlen : (List.range L.length).length = L.length := by simp
  obtain ⟨vs, _, _, ⟨wv, rfl, _, hw⟩, hwr⟩ := hat j j (by simp [hj])
  obtain ⟨wa, wc, rfl, hwc, hwb⟩ := hw.shape
  obtain ⟨wb, woff, hwe⟩ := addr_of hw
  have hwl := wordsOf_len L j
  have hask := wordN_ask ((rowsN L L.length).getD j 0) i
  rw [Nat.shiftRight_eq_div_pow] at hask
  have hdl := Nat.div_le_self (wordN ((rowsN L L.length).getD j 0) (i / 64)) (2 ^ (i % 64))
  refine Tri.of_body [(0, .pointer (some ⟨b, 0, none⟩)), (1, .int .i64 (i : Int)), (2, .int .i64 (j : Int))] Try.func25 rfl Try.ntmps25 (by simp) rfl (fun Hr => ?_)
  rw [List.nil_append]
  refine WC.seq ?_
  refine WC.region ?_
  refine WL.pur (Pur.assign rfl) ?_
  refine WL.nil ?_
  refine WQ.thn ?_
  refine WC.seq ?_
  refine WC.seq ?_
  refine WC.region ?_
  refine WL.pur (Pur.move rfl) ?_
  refine' WL.pur (Pur.bin rfl rfl ?h1_0) ?k1
  case h1_0 => first | exact Bin.ltN (b := 0) | exact Bin.ltI | exact Bin.ltS
  refine WL.pur (Pur.move rfl) ?_
  refine' WL.orp (u := 9) (t := 12) rfl ?h2_0 ?h2_1 ?h2_2 rfl ?k2
  case h2_0 =>
    intro hg9 K9
    refine WL.gpur (u := 9) rfl rfl (gF hg9) (Pur.move rfl) ?_
    refine' WL.gpur (u := 9) rfl rfl (gF hg9) (Pur.bin rfl rfl ?h3_0) ?k3
    case h3_0 => first | exact Bin.ltN (b := 0) | exact Bin.ltI | exact Bin.ltS
    exact K9 _ zcR rfl
  case h2_1 =>
    intro hg9 K9
    refine WL.gskip (u := 9) rfl rfl (sF hg9) ?_
    refine WL.gskip (u := 9) rfl rfl (sF hg9) ?_
    exact K9 _ zcR
  case h2_2 => exact Wanted.plain rfl
  refine WL.pur (Pur.move rfl) ?_
  refine' WL.orp (u := 13) (t := 21) rfl ?h4_0 ?h4_1 ?h4_2 rfl ?k4
  case h4_0 =>
    intro hg13 K13
    refine WL.gpur (u := 13) rfl rfl (gF hg13) (Pur.move rfl) ?_
    refine WL.gpur (u := 13) rfl rfl (gF hg13) (Pur.move rfl) ?_
    refine WL.gpur (u := 13) rfl rfl (gF hg13) (Pur.nilCheck rfl) ?_
    refine WL.gpur (u := 13) rfl rfl (gF hg13) (Pur.fieldAddr rfl fo_84_0) ?_
    refine' WL.gpur (u := 13) rfl rfl (gF hg13) (Pur.load1 rfl ty_23 ?h5_0) ?k5
    case h5_0 => first | (apply Rd.own1; exact zmE; rfl) | (apply RdV.rd; apply RdV.idx (i := 0); assumption; rfl)
    refine WL.gpur (u := 13) rfl rfl (gF hg13) (Pur.len rfl isSlice_23) ?_
    refine' WL.gpur (u := 13) rfl rfl (gF hg13) (Pur.bin rfl rfl ?h6_0) ?k6
    case h6_0 => first | exact Bin.geN | exact Bin.geI
    exact K13 _ zcR rfl
  case h4_1 =>
    intro hg13 K13
    refine WL.gskip (u := 13) rfl rfl (sF hg13) ?_
    refine WL.gskip (u := 13) rfl rfl (sF hg13) ?_
    refine WL.gskip (u := 13) rfl rfl (sF hg13) ?_
    refine WL.gskip (u := 13) rfl rfl (sF hg13) ?_
    refine WL.gskip (u := 13) rfl rfl (sF hg13) ?_
    refine WL.gskip (u := 13) rfl rfl (sF hg13) ?_
    refine WL.gskip (u := 13) rfl rfl (sF hg13) ?_
    exact K13 _ zcR
  case h4_2 => exact Wanted.plain rfl
  refine WL.pur (Pur.move rfl) ?_
  refine' WL.orp (u := 22) (t := 34) rfl ?h7_0 ?h7_1 ?h7_2 rfl ?k7
  case h7_0 =>
    intro hg22 K22
    refine WL.gpur (u := 22) rfl rfl (gF hg22) (Pur.move rfl) ?_
    refine' WL.gpur (u := 22) rfl rfl (gF hg22) (Pur.bin rfl rfl ?h8_0) ?k8
    case h8_0 => first | (refine Bin.quoN (b := 64) ?_ ?_ <;> omega)
    refine WL.gpur (u := 22) rfl rfl (gF hg22) (Pur.move rfl) ?_
    refine WL.gpur (u := 22) rfl rfl (gF hg22) (Pur.nilCheck rfl) ?_
    refine WL.gpur (u := 22) rfl rfl (gF hg22) (Pur.fieldAddr rfl fo_84_2) ?_
    refine' WL.gpur (u := 22) rfl rfl (gF hg22) (Pur.load1 rfl ty_82 ?h9_0) ?k9
    case h9_0 => first | (apply Rd.own1; exact zmE; rfl) | (apply RdV.rd; apply RdV.idx (i := 2); assumption; rfl) | (apply RdV.rd; apply RdV.idx (off := 0) (i := 2); assumption; rfl)
    refine WL.gpur (u := 22) rfl rfl (gF hg22) (Pur.move rfl) ?_
    refine' WL.gpur (u := 22) rfl rfl (gF hg22) (Pur.indexAddr rfl rfl sl_82 ?h10_0) ?k10
    case h10_0 => omega
    refine' WL.gpur (u := 22) rfl rfl (gF hg22) (Pur.load1 rfl ty_100 ?h11_0) ?k11
    case h11_0 => first | (apply Rd.own1; exact zmE; rfl) | (apply Rd.own1; exact zmE; assumption) | (apply Rd.own_map; exact zmE; assumption) | exact RdV.rd (by assumption) | (apply Rd.own1; exact zmE; exact get_row (by assumption) (by first | assumption | omega)) | (apply RdV.rd; apply RdV.idx (i := 0); assumption; rfl)
    refine WL.gpur (u := 22) rfl rfl (gF hg22) (Pur.len rfl isSlice_100) ?_
    refine' WL.gpur (u := 22) rfl rfl (gF hg22) (Pur.bin rfl rfl ?h12_0) ?k12
    case h12_0 => first | exact Bin.geN | exact Bin.geI
    exact K22 _ zcR rfl
  case h7_1 =>
    intro hg22 K22
    refine WL.gskip (u := 22) rfl rfl (sF hg22) ?_
    refine WL.gskip (u := 22) rfl rfl (sF hg22) ?_
    refine WL.gskip (u := 22) rfl rfl (sF hg22) ?_
    refine WL.gskip (u := 22) rfl rfl (sF hg22) ?_
    refine WL.gskip (u := 22) rfl rfl (sF hg22) ?_
    refine WL.gskip (u := 22) rfl rfl (sF hg22) ?_
    refine WL.gskip (u := 22) rfl rfl (sF hg22) ?_
    refine WL.gskip (u := 22) rfl rfl (sF hg22) ?_
    refine WL.gskip (u := 22) rfl rfl (sF hg22) ?_
    refine WL.gskip (u := 22) rfl rfl (sF hg22) ?_
    refine WL.gskip (u := 22) rfl rfl (sF hg22) ?_
    exact K22 _ zcR
  case h7_2 => exact Wanted.plain rfl
  refine WL.nil ?_
  refine WQ.thn ?_
  first | refine WC.cond rfl (fun hc0 => ?_) (fun hc0 => ?_) | refine WC.condB rfl (fun hc0 => ?_) (fun hc0 => ?_)
  · refine WC.seq ?_
    refine WC.region ?_
    refine WL.pur (Pur.assign rfl) ?_
    refine WL.nil ?_
    refine WQ.thn ?_
    refine WC.ret ?_
    refine WQ.thn_ret ?_
    refine WQ.ret1 Try.results25 rfl [] zsL (View.le_refl _) ?_
    refine ⟨?_, rfl, rfl⟩
    exact boolF (by rw [sees_hi ho hj (by omega)]; simp)
  · have hiw : i / 64 < (j + 63) / 64 := by omega
    have hww := wordsOf_get (L := L) hiw
    have hwlt := wordN_lt ((rowsN L L.length).getD j 0) (i / 64)
    obtain ⟨wb2, woff2, wc2, e2, _, _, hwat⟩ := hw.at (by omega)
    cases e2
    obtain ⟨ws, _, _, rfl, hwd⟩ := hwat _ _ hww
    refine WC.skip ?_
    refine WQ.thn ?_
    refine WC.seq ?_
    refine WC.region ?_
    refine WL.pur (Pur.move rfl) ?_
    refine WL.pur (Pur.nilCheck rfl) ?_
    refine WL.pur (Pur.fieldAddr rfl fo_84_2) ?_
    refine' WL.pur (Pur.load1 rfl ty_82 ?h13_0) ?k13
    case h13_0 => first | (apply Rd.own1; exact zmE; rfl) | (apply RdV.rd; apply RdV.idx (i := 2); assumption; rfl) | (apply RdV.rd; apply RdV.idx (off := 0) (i := 2); assumption; rfl)
    refine WL.pur (Pur.move rfl) ?_
    refine' WL.pur (Pur.indexAddr rfl rfl sl_82 ?h14_0) ?k14
    case h14_0 => omega
    refine' WL.pur (Pur.load1 rfl ty_100 ?h15_0) ?k15
    case h15_0 => first | (apply Rd.own1; exact zmE; rfl) | (apply Rd.own1; exact zmE; assumption) | (apply Rd.own_map; exact zmE; assumption) | exact RdV.rd (by assumption) | (apply Rd.own1; exact zmE; exact get_row (by assumption) (by first | assumption | omega)) | (apply RdV.rd; apply RdV.idx (i := 0); assumption; rfl)
    refine WL.pur (Pur.move rfl) ?_
    refine' WL.pur (Pur.bin rfl rfl ?h16_0) ?k16
    case h16_0 => first | (refine Bin.quoN (b := 64) ?_ ?_ <;> omega)
    refine' WL.pur (Pur.indexAddr rfl rfl sl_100 ?h17_0) ?k17
    case h17_0 => omega
    refine' WL.pur (Pur.load1 rfl ty_101 ?h18_0) ?k18
    case h18_0 => first | (apply Rd.own1; exact zmE; rfl) | (apply Rd.own1; exact zmE; assumption) | (apply Rd.own_map; exact zmE; assumption) | exact RdV.rd (by assumption) | (apply Rd.own1; exact zmE; exact get_row (by assumption) (by first | assumption | omega)) | (apply RdV.rd; apply RdV.idx (i := 0); assumption; rfl)
    refine WL.pur (Pur.move rfl) ?_
    refine' WL.pur (Pur.bin rfl rfl ?h19_0) ?k19
    case h19_0 => first | (refine Bin.remN (b := 64) ?_; omega)
    refine' WL.pur (Pur.bin rfl rfl ?h20_0) ?k20
    case h20_0 => first | (refine Bin.shrU ?_; omega)
    refine' WL.pur (Pur.bin rfl rfl ?h21_0) ?k21
    case h21_0 => first | (refine Bin.andU (b := 1) ?_ ?_ <;> omega)
    refine' WL.pur (Pur.bin rfl rfl ?h22_0) ?k22
    case h22_0 => first | exact Bin.eqN (b := 1) | exact Bin.eqI
    refine WL.pur (Pur.assign rfl) ?_
    refine WL.nil ?_
    refine WQ.thn ?_
    refine WC.ret ?_
    refine WQ.ret1 Try.results25 rfl [] zsL (View.le_refl _) ?_
    refine ⟨?_, rfl, rfl⟩
    exact decB hask

theorem seesI_nat (L : List EntD) (i j : Nat) : seesI L i j ↔ seesN L i j = true := by
  unfold seesI
  rw [Int.toNat_natCast, Int.toNat_natCast]
  exact ⟨fun h => h.2.2, fun h => ⟨by omega, by omega, h⟩⟩
theorem seesI_not {L : List EntD} (ho : OrdOk L) {i j : Int} (h : i < 0 ∨ (L.length : Int) ≤ i ∨ j < 0 ∨ (L.length : Int) ≤ j) : decide (seesI L i j) = false := by
  refine decide_eq_false fun hs => ?_
  have h1 := sees_lt ho hs.2.2
  have := hs.1
  have := hs.2.1
  omega
theorem past_SeesI (σ : View) (pv : Value) (L : List EntD) (i j : Int) (h : PastV σ pv L) (ho : OrdOk L) (hi : i ≤ 9223372036854775807) : TriP Try.prog 25 #[pv, .int .i64 i, .int .i64 j] σ (.bool (decide (seesI L i j))) := by
  by_cases hx : i < 0 ∨ j < 0 ∨ (L.length : Int) ≤ j
  · rw [seesI_not ho (hx.elim .inl (fun h => .inr (.inr h)))]
    exact past_SeesO σ pv L i j h ho hx
  · obtain ⟨i, rfl⟩ := Int.eq_ofNat_of_zero_le (show 0 ≤ i by omega)
    obtain ⟨j, rfl⟩ := Int.eq_ofNat_of_zero_le (show 0 ≤ j by omega)
    have := past_SeesB σ pv L i j h ho (by omega) (by omega)
    rw [show decide (seesI L (i : Int) (j : Int)) = decide (seesN L i j = true) from decide_eq_decide.2 (seesI_nat L i j)]
    exact this

set_option maxHeartbeats 2000000 in
theorem past_Since (σ : View) (pv ov nv : Value) (L : List EntD) (os ns : List Nat) (h : PastV σ pv L) (ho : OrdOk L) (hO : Hashes σ ov os) (hN : Hashes σ nv ns) :
    Tri Try.prog 51 #[pv, ov, nv] σ [] (fun v σ' H' => (∃ sv ev, v = .tuple #[sv, .int .i64 ev] ∧ ((ev = 0 ∧ allH L os ∧ allH L ns ∧ ∃ h, SlO σ' eHash 31 32 sv (selN L (sinceP L os ns) L.length) h ∧ H' = h) ∨ (ev = 6 ∧ ¬ (allH L os ∧ allH L ns) ∧ sv = .slice none 0 0 ∧ H' = [])))) := by
  have h' := h
  have hmost := ho.most
  obtain ⟨b, mb, lv, sv, rfl, hr, hl, hm, hsn⟩ := h
  obtain ⟨la, lc, rfl, hlc, hlb⟩ := hl.shape
  obtain ⟨lb, loff, hel⟩ := addr_of hl
  refine Tri.of_body [(0, .pointer (some ⟨b, 0, none⟩)), (1, ov), (2, nv)] Try.func51 rfl Try.ntmps51 (by simp) rfl (fun Hr => ?_)
  rw [List.nil_append]
  refine WC.seq ?_
  refine WC.region ?_
  refine WL.pur (Pur.assign rfl) ?_
  refine WL.pur (Pur.assign rfl) ?_
  refine WL.nil ?_
  refine WQ.thn ?_
  refine WC.seq ?_
  refine WC.region ?_
  refine WL.pur (Pur.move rfl) ?_
  refine WL.pur (Pur.move rfl) ?_
  refine WL.call (H0 := []) (Hr := Hr) rfl Try.call40 (List.Perm.refl _) (past_under2 _ _ _ L os h' ho hO) ?_
  rintro _ σ HU ⟨rfl, svo, ev, rfl, hor⟩ _
  refine WL.pur (Pur.move rfl) ?_
  first | refine WL.pur (Pur.ex2_0 rfl) ?_ | refine WL.pur (Pur.ex3_0 rfl) ?_ | refine WL.pur (Pur.extractNext rfl) ?_ | refine WL.pur (Pur.extract rfl rfl) ?_
  first | refine WL.pur (Pur.ex2_1 rfl) ?_ | refine WL.pur (Pur.ex3_1 rfl) ?_ | refine WL.pur (Pur.extract rfl rfl) ?_
  refine WL.pur (Pur.assign rfl) ?_
  refine WL.pur (Pur.assign rfl) ?_
  refine WL.nil ?_
  refine WQ.thn ?_
  refine WC.seq ?_
  refine WC.seq ?_
  refine WC.region ?_
  refine WL.pur (Pur.move rfl) ?_
  refine' WL.pur (Pur.bin rfl rfl ?h1_0) ?k1
  case h1_0 => first | exact Bin.neN (b := 0) | exact Bin.neI
  refine WL.nil ?_
  refine WQ.thn ?_
  first | refine WC.cond rfl (fun hc0 => ?_) (fun hc0 => ?_) | refine WC.condB rfl (fun hc0 => ?_) (fun hc0 => ?_)
  · obtain ⟨rfl, hno, rfl⟩ := hor.resolve_left (fun h => hc0 h.1)
    refine WC.seq ?_
    refine WC.region ?_
    refine WL.pur (Pur.move rfl) ?_
    refine WL.pur (Pur.assign rfl) ?_
    refine WL.pur (Pur.assign rfl) ?_
    refine WL.nil ?_
    refine WQ.thn ?_
    refine WC.ret ?_
    refine WQ.thn_ret ?_
    refine WQ.ret2 Try.results51 rfl rfl [] (by repeat (first | exact List.Sublist.refl _ | apply List.Sublist.cons)) (View.le_refl _) ?_
    exact ⟨_, _, rfl, .inr ⟨rfl, fun h => hno h.1, rfl, rfl⟩⟩
  · obtain ⟨rfl, hal, bo, rfl, rfl⟩ := hor.resolve_right (fun h => hc0 (by rw [h.1]; decide))
    rw [List.singleton_append]
    refine WC.skip ?_
    refine WQ.thn ?_
    refine WC.seq ?_
    refine WC.region ?_
    refine WL.pur (Pur.move rfl) ?_
    refine WL.pur (Pur.move rfl) ?_
    refine WL.call (H0 := []) (Hr := (bo, rowO 4 ((List.range L.length).map (fun j => Value.bool (decide (inH L os j))))) :: Hr) rfl Try.call40 (List.Perm.refl _) (past_under2 _ _ _ L ns h' ho hN) ?_
    rintro _ σ HU2 ⟨rfl, svn, ev2, rfl, hor2⟩ _
    refine WL.pur (Pur.move rfl) ?_
    first | refine WL.pur (Pur.ex2_0 rfl) ?_ | refine WL.pur (Pur.ex3_0 rfl) ?_ | refine WL.pur (Pur.extractNext rfl) ?_ | refine WL.pur (Pur.extract rfl rfl) ?_
    first | refine WL.pur (Pur.ex2_1 rfl) ?_ | refine WL.pur (Pur.ex3_1 rfl) ?_ | refine WL.pur (Pur.extract rfl rfl) ?_
    refine WL.pur (Pur.assign rfl) ?_
    refine WL.pur (Pur.assign rfl) ?_
    refine WL.nil ?_
    refine WQ.thn ?_
    refine WC.seq ?_
    refine WC.seq ?_
    refine WC.region ?_
    refine WL.pur (Pur.move rfl) ?_
    refine' WL.pur (Pur.bin rfl rfl ?h2_0) ?k2
    case h2_0 => first | exact Bin.neN (b := 0) | exact Bin.neI
    refine WL.nil ?_
    refine WQ.thn ?_
    first | refine WC.cond rfl (fun hc1 => ?_) (fun hc1 => ?_) | refine WC.condB rfl (fun hc1 => ?_) (fun hc1 => ?_)
    · obtain ⟨rfl, hno, rfl⟩ := hor2.resolve_left (fun h => hc1 h.1)
      refine WC.seq ?_
      refine WC.region ?_
      refine WL.pur (Pur.move rfl) ?_
      refine WL.pur (Pur.assign rfl) ?_
      refine WL.pur (Pur.assign rfl) ?_
      refine WL.nil ?_
      refine WQ.thn ?_
      refine WC.ret ?_
      refine WQ.thn_ret ?_
      refine WQ.ret2 Try.results51 rfl rfl [] (by repeat (first | exact List.Sublist.refl _ | apply List.Sublist.cons)) (View.le_refl _) ?_
      exact ⟨_, _, rfl, .inr ⟨rfl, fun h => hno h.2, rfl, rfl⟩⟩
    · obtain ⟨rfl, hal2, bn, rfl, rfl⟩ := hor2.resolve_right (fun h => hc1 (by rw [h.1]; decide))
      rw [List.singleton_append]
      refine WC.skip ?_
      refine WQ.thn ?_
      refine WC.seq ?_
      refine WC.region ?_
      refine WL.pur (Pur.assign rfl) ?_
      refine WL.nil ?_
      refine WQ.thn ?_
      refine WC.seq ?_
      refine WC.seq ?_
      refine WC.region ?_
      refine WL.pur (Pur.move rfl) ?_
      refine WL.pur (Pur.nilCheck rfl) ?_
      refine WL.pur (Pur.fieldAddr rfl fo_84_0) ?_
      refine' WL.pur (Pur.load1 rfl ty_23 ?h3_0) ?k3
      case h3_0 => exact RdV.rd (RdV.idx (off := 0) (i := 0) hr rfl)
      refine WL.pur (Pur.len rfl isSlice_23) ?_
      refine WL.pur (Pur.move rfl) ?_
      refine WL.nil ?_
      refine WQ.thn ?_
      refine WC.block ?_
      refine WC.loop (fun j m σ' H' => ∃ (i : Nat) (lv2 : Value) (hl2 : HList), j = L.length - i ∧ i ≤ L.length ∧ SlO σ' eHash 31 32 lv2 (selN L (sinceP L os ns) i) hl2 ∧ m = [(8, .slice (some ⟨bo, 0, none⟩) L.length L.length), (10, .slice (some ⟨bn, 0, none⟩) L.length L.length), (11, lv2), (35, .slice la L.length lc), (36, .int .i64 (L.length : Int)), (37, .int .i64 (i : Int))] ∧ σ' = σ ∧ H' = (bn, rowO 4 ((List.range L.length).map (fun j => Value.bool (decide (inH L ns j))))) :: (bo, rowO 4 ((List.range L.length).map (fun j => Value.bool (decide (inH L os j))))) :: (hl2 ++ Hr)) ⟨0, _, [], rfl, by omega, by rw [selN_zero]; exact SlO.nil, rfl, rfl, rfl⟩ zcV zsL ?_
      rintro _ _ σ Hr ⟨i, lv2, hl2, rfl, hi, hso, rfl, rfl, rfl⟩
      refine WC.seq ?_
      refine WC.region ?_
      refine' WL.pur (Pur.bin rfl rfl ?h4_0) ?k4
      case h4_0 => first | exact Bin.ltN | exact Bin.ltI | exact Bin.ltS
      refine WL.nil ?_
      refine WQ.thn ?_
      refine WC.seq ?_
      first | refine WC.cond rfl (fun hc2 => ?_) (fun hc2 => ?_) | refine WC.condB rfl (fun hc2 => ?_) (fun hc2 => ?_)
      · obtain ⟨e, he⟩ : ∃ e, L[i]? = some e := ⟨_, List.getElem?_eq_getElem (by omega)⟩
        obtain ⟨qv, ov, hrd, heH, hNR⟩ := ent_rd hl hel he
        obtain ⟨pa2, pc2, rfl, _, _⟩ := hNR.1.shape
        obtain ⟨oa2, oc2, rfl, _, _⟩ := hNR.2.1.shape
        have hlen2 := selN_len L (sinceP L os ns) i
        refine WC.skip ?_
        refine WQ.thn ?_
        refine WC.seq ?_
        refine WC.block ?_
        refine WC.seq ?_
        refine WC.region ?_
        refine WL.pur (Pur.move rfl) ?_
        refine' WL.pur (Pur.indexAddr (eqA (hel (by omega))) rfl sl_23 ?h5_0) ?k5
        case h5_0 => omega
        refine' WL.pur (Pur.loadN rfl ty_37 ?h6_0 ?h6_1) ?k6
        case h6_0 => exact RdV.rd hrd
        case h6_1 => first | rfl | assumption
        refine WL.new (New.alloc zc_37) (fun b13 => ?_)
        refine WL.pur (Pur.assign rfl) ?_
        refine' WL.run0 (Run.storeAll rfl rfl ty_37 ?h7_0 (by first | rfl | assumption) ?h7_1 (by first | rfl | assumption)) ?k7
        case h7_0 => repeat (first | exact Part.one | exact Part.here | apply Part.cons | apply Part.app)
        case h7_1 => first | rfl | assumption
        refine WL.nil ?_
        refine WQ.thn ?_
        refine WC.seq ?_
        refine WC.region ?_
        refine WL.pur (Pur.move rfl) ?_
        refine WL.pur (Pur.move rfl) ?_
        refine' WL.pur (Pur.indexAddr rfl rfl sl_42 ?h8_0) ?k8
        case h8_0 => omega
        refine' WL.pur (Pur.load1 rfl ty_4 ?h9_0) ?k9
        case h9_0 => apply Rd.own1; exact zmE; exact get_range_map1 (show i < L.length by omega)
        refine WL.pur (Pur.move rfl) ?_
        refine' WL.andp (u := 46) (t := 52) rfl ?h10_0 ?h10_1 ?h10_2 rfl ?k10
        case h10_0 =>
          intro hg46 K46
          refine WL.gpur (u := 46) rfl rfl (gT hg46) (Pur.move rfl) ?_
          refine WL.gpur (u := 46) rfl rfl (gT hg46) (Pur.move rfl) ?_
          refine' WL.gpur (u := 46) rfl rfl (gT hg46) (Pur.indexAddr rfl rfl sl_42 ?h11_0) ?k11
          case h11_0 => omega
          refine' WL.gpur (u := 46) rfl rfl (gT hg46) (Pur.load1 rfl ty_4 ?h12_0) ?k12
          case h12_0 => apply Rd.own1; exact zmE; exact get_range_map1 (show i < L.length by omega)
          first | refine WL.gpur (u := 46) rfl rfl (gT hg46) (Pur.not rfl) ?_ | refine WL.gpur (u := 46) rfl rfl (gT hg46) (Pur.notB rfl) ?_
          exact K46 _ zcR rfl
        case h10_1 =>
          intro hg46 K46
          refine WL.gskip (u := 46) rfl rfl (sT hg46) ?_
          refine WL.gskip (u := 46) rfl rfl (sT hg46) ?_
          refine WL.gskip (u := 46) rfl rfl (sT hg46) ?_
          refine WL.gskip (u := 46) rfl rfl (sT hg46) ?_
          refine WL.gskip (u := 46) rfl rfl (sT hg46) ?_
          exact K46 _ zcR
        case h10_2 => exact Wanted.plain rfl
        refine WL.nil ?_
        refine WQ.thn ?_
        first | refine WC.cond rfl (fun hc3 => ?_) (fun hc3 => ?_) | refine WC.condB rfl (fun hc3 => ?_) (fun hc3 => ?_)
        · have hc3 : sinceP L os ns i := hc3
          refine WC.region ?_
          refine WL.pur (Pur.move rfl) ?_
          refine WL.pur (Pur.fieldAddr rfl fo_37_0) ?_
          refine' WL.pur (Pur.loadN rfl ty_31 ?h13_0 ?h13_1) ?k13
          case h13_0 => apply Rd.own_sub; exact zmE; exact Sub.ent_hash _ _ _ _ _
          case h13_1 => first | rfl | assumption
          refine WL.new (New.buildSliceN (xs := [.tmp 55]) (vss := [hashCells e.id]) sl_32 zc_31 rfl rfl rfl (by rfl) (by rfl)) (fun b56 => ?_)
          refine' WL.any (Any.push (H1 := [(b56, _), (b13, _), (bn, rowO 4 ((List.range L.length).map (fun j => Value.bool (decide (inH L ns j))))), (bo, rowO 4 ((List.range L.length).map (fun j => Value.bool (decide (inH L os j)))))]) (H2 := Hr) sl_32 zc_31 rfl by_31 rfl rfl hso ?h14_0 ?h14_1 ?h14_2 ?h14_3 rfl (by omega) (by omega)) ?k14
          case h14_0 => apply Rd.own_sub; exact zmE; exact Sub.refl _
          case h14_1 => first | rfl | assumption
          case h14_2 => first | rfl | assumption
          case h14_3 => exact ⟨rfl, heH⟩
          rintro v57 σ _ ⟨hl3, hso3, rfl, rfl⟩ _
          refine WL.pur (Pur.assign rfl) ?_
          refine WL.nil ?_
          refine WQ.blk ?_
          refine WQ.thn ?_
          refine WC.region ?_
          refine' WL.pur (Pur.bin rfl rfl ?h15_0) ?k15
          case h15_0 => first | (refine Bin.addN (b := 1) ?_; omega) | (refine Bin.addI ?_; omega)
          refine WL.pur (Pur.move rfl) ?_
          refine WL.nil ?_
          refine WQ.back _ ⟨i + 1, _, _, rfl, by omega, by rw [selN_yes hc3, idAt_of he]; exact hso3, rfl, rfl, rfl⟩ (by omega) zcV zsL
        · have hc3 : ¬ sinceP L os ns i := hc3
          refine WC.skip ?_
          refine WQ.blk ?_
          refine WQ.thn ?_
          refine WC.region ?_
          refine' WL.pur (Pur.bin rfl rfl ?h16_0) ?k16
          case h16_0 => first | (refine Bin.addN (b := 1) ?_; omega) | (refine Bin.addI ?_; omega)
          refine WL.pur (Pur.move rfl) ?_
          refine WL.nil ?_
          refine WQ.back _ ⟨i + 1, _, _, rfl, by omega, by rw [selN_no hc3]; exact hso, rfl, rfl, rfl⟩ (by omega) zcV zsL
      · have hii : i = L.length := by omega
        subst hii
        refine WC.exit ?_
        refine WQ.thn_exit ?_
        refine WQ.back_exit ?_
        refine WQ.blk_here ?_
        refine WQ.thn ?_
        refine WC.seq ?_
        refine WC.region ?_
        refine WL.pur (Pur.move rfl) ?_
        refine WL.pur (Pur.assign rfl) ?_
        refine WL.pur (Pur.assign rfl) ?_
        refine WL.nil ?_
        refine WQ.thn ?_
        refine WC.ret ?_
        refine WQ.ret2 Try.results51 rfl rfl hl2 (by repeat (first | exact List.Sublist.refl _ | apply List.Sublist.cons)) (View.le_refl _) ?_
        exact ⟨_, _, rfl, .inl ⟨rfl, hal, hal2, _, hso, rfl⟩⟩

end Go.Proofs.Ytgoooilgmabkmaa
namespace Go.Proofs.Ytgoooilgmabkmaa
open Go Go.Sl
set_option linter.unusedVariables false
set_option linter.unusedSimpArgs false
set_option maxRecDepth 100000

theorem law11_awake (σ : View) :
    Tri Try.prog 9 #[] σ [] (fun v σ' H' => v = .bool true ∧ H' = []) := by
  have hIB := idA_isH
  have hIA := idB_isH
  have hIB2 : IsH gB.id := idA_isH
  refine Tri.of_body [] Try.func9 rfl Try.ntmps9 (by simp) rfl (fun Hr => ?_)
  rw [List.nil_append]
  refine WC.seq ?_
  refine WC.region ?_
  refine WL.pur (Pur.assign rfl) ?_
  refine WL.nil ?_
  refine WQ.thn ?_
  refine WC.seq ?_
  refine WC.region ?_
  refine WL.pur (Pur.buildA (us := (hashCells (2 ^ 249))) zc_31 ar_31 rfl rfl rfl) ?_
  refine WL.pur (Pur.build (l := (nodeCells 1 1 (.slice none 0 0) (.slice none 0 0))) pl_35 zc_35 rfl rfl) ?_
  refine WL.pur (Pur.build (l := entCells _ _ _ _ _) pl_37 zc_37 rfl rfl) ?_
  refine WL.new (New.alloc zc_37) (fun b1 => ?_)
  refine' WL.run0 (Run.storeAll rfl rfl ty_37 ?h1_0 (by first | rfl | assumption) ?h1_1 (by first | rfl | assumption)) ?k1
  case h1_0 => repeat (first | exact Part.one | exact Part.here | apply Part.cons | apply Part.app)
  case h1_1 => first | rfl | assumption
  refine WL.nil ?_
  refine WQ.thn ?_
  refine WC.seq ?_
  refine WC.region ?_
  refine WL.pur (Pur.buildA (us := (hashCells (2 ^ 248))) zc_31 ar_31 rfl rfl rfl) ?_
  refine WL.pur (Pur.buildA (us := (hashCells (2 ^ 249))) zc_31 ar_31 rfl rfl rfl) ?_
  refine WL.new (New.buildSliceN (xs := [.tmp 13]) (vss := [hashCells (2 ^ 249)]) sl_32 zc_31 rfl rfl rfl (by rfl) (by rfl)) (fun b14 => ?_)
  refine WL.pur (Pur.build (l := (nodeCells 2 2 (.slice (some ⟨b14, 0, none⟩) 1 1) (.slice none 0 0))) pl_35 zc_35 rfl rfl) ?_
  refine WL.pur (Pur.build (l := entCells _ _ _ _ _) pl_37 zc_37 rfl rfl) ?_
  refine WL.new (New.alloc zc_37) (fun b2 => ?_)
  refine' WL.run0 (Run.storeAll rfl rfl ty_37 ?h2_0 (by first | rfl | assumption) ?h2_1 (by first | rfl | assumption)) ?k2
  case h2_0 => repeat (first | exact Part.one | exact Part.here | apply Part.cons | apply Part.app)
  case h2_1 => first | rfl | assumption
  refine WL.nil ?_
  refine WQ.thn ?_
  refine WC.seq ?_
  refine WC.region ?_
  refine' WL.pur (Pur.loadN rfl ty_37 ?h3_0 ?h3_1) ?k3
  case h3_0 => first | (apply Rd.own_sub; exact zmE; exact Sub.refl _) | (apply RdV.rd; assumption)
  case h3_1 => first | rfl | assumption
  refine' WL.pur (Pur.loadN rfl ty_37 ?h4_0 ?h4_1) ?k4
  case h4_0 => first | (apply Rd.own_sub; exact zmE; exact Sub.refl _) | (apply RdV.rd; assumption)
  case h4_1 => first | rfl | assumption
  refine WL.new (New.buildSliceN (xs := [.tmp 18, .tmp 19]) (vss := [entCells (2 ^ 248) 2 2 (.slice (some ⟨b14, 0, none⟩) 1 1) (.slice none 0 0), entCells (2 ^ 249) 1 1 (.slice none 0 0) (.slice none 0 0)]) sl_23 zc_37 rfl rfl rfl (by rfl) (by rfl)) (fun b20 => ?_)
  refine WL.giveS (E := eHash) (byt := 32) (H1 := [(b20, _), (b2, _)]) (H2 := (b1, _) :: Hr) eHash_mono (SlO.row (T := 31) (b := b14) (ElR.single (σ := σ) (sz := 32) (x := 2 ^ 249) rfl rfl ⟨rfl, idB_isH⟩)) (by decide) rfl (fun σ1 hle1 hsP => ?_)
  simp only [List.cons_append, List.nil_append]
  refine WL.giveS (E := eEnt) (byt := 96) (H1 := []) (H2 := (b2, rowO 37 (entCells (2 ^ 248) 2 2 (.slice (some ⟨b14, 0, none⟩) 1 1) (.slice none 0 0))) :: (b1, rowO 37 (entCells (2 ^ 249) 1 1 (.slice none 0 0) (.slice none 0 0))) :: Hr) eEnt_mono (SlO.row (T := 37) (b := b20) (l := [gB, gA]) (show ElR σ1 eEnt 36 [gB, gA] [entCells (2 ^ 248) 2 2 (.slice (some ⟨b14, 0, none⟩) 1 1) (.slice none 0 0), entCells (2 ^ 249) 1 1 (.slice none 0 0) (.slice none 0 0)] from (ElR.single (x := gB) rfl rfl ⟨_, _, rfl, idA_isH, hsP, SlE.nilS, i2, i2⟩).push (x := gA) rfl rfl ⟨_, _, rfl, idB_isH, SlE.nilS, SlE.nilS, i1, i1⟩)) (by decide) rfl (fun σ2 hle2 hsl => ?_)
  rw [List.nil_append]
  refine WL.call (H0 := []) (Hr := (b2, rowO 37 (entCells (2 ^ 248) 2 2 (.slice (some ⟨b14, 0, none⟩) 1 1) (.slice none 0 0))) :: (b1, rowO 37 (entCells (2 ^ 249) 1 1 (.slice none 0 0) (.slice none 0 0))) :: Hr) rfl Try.call10 (List.Perm.refl _) (past_Of2 _ _ [gB, gA] hsl) ?_
  rintro _ σ3 _ ⟨⟨pa, n3, rfl, hpp, hpn⟩, rfl⟩ hle3
  rw [List.nil_append]
  have hp1 := hpp right_g
  rw [ord_g] at hp1
  refine WL.pur (Pur.move rfl) ?_
  first | refine WL.pur (Pur.ex2_0 rfl) ?_ | refine WL.pur (Pur.ex3_0 rfl) ?_ | refine WL.pur (Pur.extractNext rfl) ?_ | refine WL.pur (Pur.extract rfl rfl) ?_
  first | refine WL.pur (Pur.ex2_1 rfl) ?_ | refine WL.pur (Pur.ex3_1 rfl) ?_ | refine WL.pur (Pur.extract rfl rfl) ?_
  first | refine WL.pur (Pur.ex3_2 rfl) ?_ | refine WL.pur (Pur.extract rfl rfl) ?_
  refine WL.pur (Pur.assign rfl) ?_
  refine WL.pur (Pur.assign rfl) ?_
  refine WL.pur (Pur.assign rfl) ?_
  refine WL.nil ?_
  refine WQ.thn ?_
  refine WC.seq ?_
  refine WC.seq ?_
  refine WC.region ?_
  refine WL.pur (Pur.move rfl) ?_
  refine' WL.pur (Pur.bin rfl rfl ?h5_0) ?k5
  case h5_0 => first | exact Bin.neN (b := 0) | exact Bin.neI
  refine WL.pur (Pur.move rfl) ?_
  refine' WL.orp (u := 27) (t := 30) rfl ?h6_0 ?h6_1 ?h6_2 rfl ?k6
  case h6_0 =>
    intro hg27 K27
    refine WL.gpur (u := 27) rfl rfl (gF hg27) (Pur.move rfl) ?_
    refine' WL.gpur (u := 27) rfl rfl (gF hg27) (Pur.bin rfl rfl ?h7_0) ?k7
    case h7_0 => exact Bin.eqP isPtr_25
    exact K27 _ zcR rfl
  case h6_1 =>
    intro hg27 K27
    refine WL.gskip (u := 27) rfl rfl (sF hg27) ?_
    refine WL.gskip (u := 27) rfl rfl (sF hg27) ?_
    exact K27 _ zcR
  case h6_2 => exact Wanted.plain rfl
  refine WL.pur (Pur.move rfl) ?_
  refine' WL.orp (u := 31) (t := 35) rfl ?h8_0 ?h8_1 ?h8_2 rfl ?k8
  case h8_0 =>
    intro hg31 K31
    refine WL.gpur (u := 31) rfl rfl (gF hg31) (Pur.move rfl) ?_
    refine WL.gcallP (u := 31) rfl rfl (gF hg31) rfl Try.call11 ((past_Len _ _ [gA, gB] hp1)) ?_
    refine' WL.gpur (u := 31) rfl rfl (gF hg31) (Pur.bin rfl rfl ?h9_0) ?k9
    case h9_0 => first | exact Bin.neN (b := 2) | exact Bin.neI
    exact K31 _ zcR rfl
  case h8_1 =>
    intro hg31 K31
    refine WL.gskip (u := 31) rfl rfl (sF hg31) ?_
    refine WL.gskip (u := 31) rfl rfl (sF hg31) ?_
    refine WL.gskip (u := 31) rfl rfl (sF hg31) ?_
    exact K31 _ zcR
  case h8_2 => exact Wanted.plain rfl
  refine WL.pur (Pur.move rfl) ?_
  refine' WL.orp (u := 36) (t := 42) rfl ?h10_0 ?h10_1 ?h10_2 rfl ?k10
  case h10_0 =>
    intro hg36 K36
    refine WL.gpur (u := 36) rfl rfl (gF hg36) (Pur.move rfl) ?_
    refine WL.gpur (u := 36) rfl rfl (gF hg36) (Pur.fieldAddr rfl fo_37_0) ?_
    refine' WL.gpur (u := 36) rfl rfl (gF hg36) (Pur.loadN rfl ty_31 ?h11_0 ?h11_1) ?k11
    case h11_0 => first | (apply Rd.own_sub; exact zmE; exact Sub.ent_hash _ _ _ _ _) | (apply RdV.rd; apply RdV.sub0; assumption; exact Sub.ent_hash _ _ _ _ _)
    case h11_1 => first | rfl | assumption
    refine WL.gcallP (u := 36) rfl rfl (gF hg36) rfl Try.call23 ((past_Number _ _ [gA, gB] (2 ^ 248) hp1 hIB)) ?_
    refine' WL.gpur (u := 36) rfl rfl (gF hg36) (Pur.bin rfl rfl ?h12_0) ?k12
    case h12_0 => first | exact Bin.neN (b := 1) | exact Bin.neI
    exact K36 _ zcR rfl
  case h10_1 =>
    intro hg36 K36
    refine WL.gskip (u := 36) rfl rfl (sF hg36) ?_
    refine WL.gskip (u := 36) rfl rfl (sF hg36) ?_
    refine WL.gskip (u := 36) rfl rfl (sF hg36) ?_
    refine WL.gskip (u := 36) rfl rfl (sF hg36) ?_
    refine WL.gskip (u := 36) rfl rfl (sF hg36) ?_
    exact K36 _ zcR
  case h10_2 => exact Wanted.plain rfl
  refine WL.pur (Pur.move rfl) ?_
  refine' WL.orp (u := 43) (t := 47) rfl ?h13_0 ?h13_1 ?h13_2 rfl ?k13
  case h13_0 =>
    intro hg43 K43
    refine WL.gpur (u := 43) rfl rfl (gF hg43) (Pur.move rfl) ?_
    refine WL.gcallP (u := 43) rfl rfl (gF hg43) rfl Try.call25 ((past_Sees _ _ [gA, gB] 0 1 hp1 ok_g (by decide) (by decide))) ?_
    first | refine WL.gpur (u := 43) rfl rfl (gF hg43) (Pur.not rfl) ?_ | refine WL.gpur (u := 43) rfl rfl (gF hg43) (Pur.notB rfl) ?_
    exact K43 _ zcR rfl
  case h13_1 =>
    intro hg43 K43
    refine WL.gskip (u := 43) rfl rfl (sF hg43) ?_
    refine WL.gskip (u := 43) rfl rfl (sF hg43) ?_
    refine WL.gskip (u := 43) rfl rfl (sF hg43) ?_
    exact K43 _ zcR
  case h13_2 => exact Wanted.plain rfl
  refine WL.pur (Pur.move rfl) ?_
  refine' WL.orp (u := 48) (t := 51) rfl ?h14_0 ?h14_1 ?h14_2 rfl ?k14
  case h14_0 =>
    intro hg48 K48
    refine WL.gpur (u := 48) rfl rfl (gF hg48) (Pur.move rfl) ?_
    refine WL.gcallP (u := 48) rfl rfl (gF hg48) rfl Try.call25 ((past_Sees _ _ [gA, gB] 1 0 hp1 ok_g (by decide) (by decide))) ?_
    exact K48 _ zcR rfl
  case h14_1 =>
    intro hg48 K48
    refine WL.gskip (u := 48) rfl rfl (sF hg48) ?_
    refine WL.gskip (u := 48) rfl rfl (sF hg48) ?_
    exact K48 _ zcR
  case h14_2 => exact Wanted.plain rfl
  refine WL.nil ?_
  refine WQ.thn ?_
  first | refine WC.cond rfl (fun hc0 => ?_) (fun hc0 => ?_) | refine WC.condB rfl (fun hc0 => ?_) (fun hc0 => ?_)
  · rcases hc0 with ((((hc | hc) | hc) | hc) | hc) | hc
    · exact absurd right_g hc
    · obtain ⟨_, _, _, _, hpe, _⟩ := hp1; subst hc; cases hpe
    · exact absurd hc (by decide)
    · exact absurd (by decide) hc
    · exact absurd sees01_g hc
    · exact absurd hc sees10_g
  · refine WC.skip ?_
    refine WQ.thn ?_
    refine WC.seq ?_
    refine WC.region ?_
    refine WL.pur (Pur.move rfl) ?_
    refine WL.call (H0 := []) (Hr := (b2, rowO 37 (entCells (2 ^ 248) 2 2 (.slice (some ⟨b14, 0, none⟩) 1 1) (.slice none 0 0))) :: (b1, rowO 37 (entCells (2 ^ 249) 1 1 (.slice none 0 0) (.slice none 0 0))) :: Hr) rfl Try.call22 (List.Perm.refl _) (past_Heads _ _ [gA, gB] hp1 ok_g) ?_
    rintro _ σ4 _ ⟨hK4, rfl⟩ hle4
    rw [List.nil_append]
    rw [heads_g] at hK4
    refine WL.pur (Pur.assign rfl) ?_
    refine WL.nil ?_
    refine WQ.thn ?_
    refine WC.seq ?_
    refine WC.region ?_
    refine WL.pur (Pur.move rfl) ?_
    refine WL.call (H0 := []) (Hr := (b2, rowO 37 (entCells (2 ^ 248) 2 2 (.slice (some ⟨b14, 0, none⟩) 1 1) (.slice none 0 0))) :: (b1, rowO 37 (entCells (2 ^ 249) 1 1 (.slice none 0 0) (.slice none 0 0))) :: Hr) rfl Try.call12 (List.Perm.refl _) (past_Entry _ _ [gA, gB] 1 (hp1.mono hle4)) ?_
    rintro _ σ5 _ ⟨hd, rfl⟩ hle5
    rw [List.nil_append]
    obtain ⟨k, e, xv, ov, hik, he, rfl, hNR⟩ := hd.resolve_right (fun h => by have := h.1; simp at this)
    obtain rfl : k = 1 := by omega
    obtain rfl : gB = e := by simpa using he
    have hK := hK4.mono eHash_mono hle5
    obtain ⟨ka, kc, rfl, hkc, _⟩ := hK.shape
    obtain ⟨kb, koff, hea, hkat⟩ := hK.rds
    obtain ⟨_, _, _, ⟨rfl, _⟩, hr1⟩ := hkat 0 (2 ^ 248) rfl
    obtain ⟨_, _, rfl, _, _⟩ := hNR.1.shape
    obtain ⟨_, _, rfl, _, _⟩ := hNR.2.1.shape
    refine WL.pur (Pur.move rfl) ?_
    first | refine WL.pur (Pur.ex2_0 rfl) ?_ | refine WL.pur (Pur.ex3_0 rfl) ?_ | refine WL.pur (Pur.extractNext rfl) ?_ | refine WL.pur (Pur.extract rfl rfl) ?_
    first | refine WL.pur (Pur.ex2_1 rfl) ?_ | refine WL.pur (Pur.ex3_1 rfl) ?_ | refine WL.pur (Pur.extract rfl rfl) ?_
    refine WL.new (New.alloc zc_37) (fun b7 => ?_)
    refine' WL.run0 (Run.storeAll rfl rfl ty_37 ?h15_0 (by first | rfl | assumption) ?h15_1 (by first | rfl | assumption)) ?k15
    case h15_0 => repeat (first | exact Part.one | exact Part.here | apply Part.cons | apply Part.app)
    case h15_1 => first | rfl | assumption
    refine WL.pur (Pur.assign rfl) ?_
    refine WL.nil ?_
    refine WQ.thn ?_
    refine WC.seq ?_
    refine WC.drawH 23 23 mixed (by kernel_rfl) rfl ?_
    refine SA.take 0 (by kernel_rfl) rfl rfl rfl (Wanted.plain rfl) zsL (View.le_refl _) (Pur.move rfl) ?_
    refine SA.take 1 (by kernel_rfl) rfl rfl rfl (Wanted.plain rfl) zsL (View.le_refl _) (Pur.len rfl isSlice_32) ?_
    refine' SA.take 2 (by kernel_rfl) rfl rfl rfl (Wanted.plain rfl) zsL (View.le_refl _) (Pur.bin rfl rfl ?h16_0) ?k16
    case h16_0 => first | exact Bin.eqN (b := 1) | exact Bin.eqI
    refine SA.take 3 (by kernel_rfl) rfl rfl rfl (Wanted.plain rfl) zsL (View.le_refl _) (Pur.move rfl) ?_
    refine' SA.andp 10 (u := 62) rfl ?h17_0 ?h17_1 ?h17_2 rfl zsL (View.le_refl _) ?h17_3 rfl ?k17
    case h17_0 =>
      intro hg62 K62
      refine SA.take 4 (by kernel_rfl) rfl rfl rfl (Wanted.guard (u := 62) rfl rfl rfl (gT hg62)) zsL (View.le_refl _) (Pur.move rfl) ?_
      refine' SA.take 5 (by kernel_rfl) rfl rfl rfl (Wanted.guard (u := 62) rfl rfl rfl (gT hg62)) zsL (View.le_refl _) (Pur.indexAddr (i := 0) (eqA (hea (by decide))) rfl sl_32 ?h18_0) ?k18
      case h18_0 => decide
      refine' SA.take 6 (by kernel_rfl) rfl rfl rfl (Wanted.guard (u := 62) rfl rfl rfl (gT hg62)) zsL (View.le_refl _) (Pur.loadN rfl ty_31 ?h19_0 ?h19_1) ?k19
      case h19_0 => exact RdV.rd hr1
      case h19_1 => first | rfl | assumption
      refine SA.take 7 (by kernel_rfl) rfl rfl rfl (Wanted.guard (u := 62) rfl rfl rfl (gT hg62)) zsL (View.le_refl _) (Pur.fieldAddr rfl fo_37_0) ?_
      refine' SA.take 8 (by kernel_rfl) rfl rfl rfl (Wanted.guard (u := 62) rfl rfl rfl (gT hg62)) zsL (View.le_refl _) (Pur.loadN rfl ty_31 ?h20_0 ?h20_1) ?k20
      case h20_0 => first | (apply Rd.own_sub; exact zmE; exact Sub.ent_hash _ _ _ _ _) | (apply RdV.rd; apply RdV.sub0; assumption; exact Sub.ent_hash _ _ _ _ _)
      case h20_1 => first | rfl | assumption
      refine' SA.take 9 (by kernel_rfl) rfl rfl rfl (Wanted.guard (u := 62) rfl rfl rfl (gT hg62)) zsL (View.le_refl _) (Pur.bin rfl rfl ?h21_0) ?k21
      case h21_0 => (refine Bin.eqH isHash_31 ?_ ?_ <;> assumption)
      exact K62 _ zcR rfl
    case h17_1 =>
      intro hg62 K62
      refine SA.gskip 4 (u := 62) (by kernel_rfl) rfl rfl rfl rfl rfl rfl (sT hg62) zsL (View.le_refl _) ?_
      refine SA.gskip 5 (u := 62) (by kernel_rfl) rfl rfl rfl rfl rfl rfl (sT hg62) zsL (View.le_refl _) ?_
      refine SA.gskip 6 (u := 62) (by kernel_rfl) rfl rfl rfl rfl rfl rfl (sT hg62) zsL (View.le_refl _) ?_
      refine SA.gskip 7 (u := 62) (by kernel_rfl) rfl rfl rfl rfl rfl rfl (sT hg62) zsL (View.le_refl _) ?_
      refine SA.gskip 8 (u := 62) (by kernel_rfl) rfl rfl rfl rfl rfl rfl (sT hg62) zsL (View.le_refl _) ?_
      refine SA.gskip 9 (u := 62) (by kernel_rfl) rfl rfl rfl rfl rfl rfl (sT hg62) zsL (View.le_refl _) ?_
      exact K62 _ zcR
    case h17_2 => kernel_rfl
    case h17_3 => exact Wanted.plain rfl
    refine SA.take 11 (by kernel_rfl) rfl rfl rfl (Wanted.plain rfl) zsL (View.le_refl _) (Pur.move rfl) ?_
    refine' SA.andp 14 (u := 70) rfl ?h22_0 ?h22_1 ?h22_2 rfl zsL (View.le_refl _) ?h22_3 rfl ?k22
    case h22_0 =>
      intro hg70 K70
      refine SA.take 12 (by kernel_rfl) rfl rfl rfl (Wanted.guard (u := 70) rfl rfl rfl (gT hg70)) zsL (View.le_refl _) (Pur.move rfl) ?_
      refine' SA.take 13 (by kernel_rfl) rfl rfl rfl (Wanted.guard (u := 70) rfl rfl rfl (gT hg70)) zsL (View.le_refl _) (Pur.bin rfl rfl ?h23_0) ?k23
      case h23_0 => first | exact Bin.eqN (b := 0) | exact Bin.eqI
      exact K70 _ zcR rfl
    case h22_1 =>
      intro hg70 K70
      refine SA.gskip 12 (u := 70) (by kernel_rfl) rfl rfl rfl rfl rfl rfl (sT hg70) zsL (View.le_refl _) ?_
      refine SA.gskip 13 (u := 70) (by kernel_rfl) rfl rfl rfl rfl rfl rfl (sT hg70) zsL (View.le_refl _) ?_
      exact K70 _ zcR
    case h22_2 => kernel_rfl
    case h22_3 => exact Wanted.plain rfl
    refine SA.take 15 (by kernel_rfl) rfl rfl rfl (Wanted.plain rfl) zsL (View.le_refl _) (Pur.move rfl) ?_
    refine' SA.andp 21 (u := 74) rfl ?h24_0 ?h24_1 ?h24_2 rfl zsL (View.le_refl _) ?h24_3 rfl ?k24
    case h24_0 =>
      intro hg74 K74
      refine SA.take 16 (by kernel_rfl) rfl rfl rfl (Wanted.guard (u := 74) rfl rfl rfl (gT hg74)) zsL (View.le_refl _) (Pur.fieldAddr rfl fo_37_0) ?_
      refine' SA.take 17 (by kernel_rfl) rfl rfl rfl (Wanted.guard (u := 74) rfl rfl rfl (gT hg74)) zsL (View.le_refl _) (Pur.loadN rfl ty_31 ?h25_0 ?h25_1) ?k25
      case h25_0 => first | (apply Rd.own_sub; exact zmE; exact Sub.ent_hash _ _ _ _ _) | (apply RdV.rd; apply RdV.sub0; assumption; exact Sub.ent_hash _ _ _ _ _)
      case h25_1 => first | rfl | assumption
      refine SA.take 18 (by kernel_rfl) rfl rfl rfl (Wanted.guard (u := 74) rfl rfl rfl (gT hg74)) zsL (View.le_refl _) (Pur.fieldAddr rfl fo_37_0) ?_
      refine' SA.take 19 (by kernel_rfl) rfl rfl rfl (Wanted.guard (u := 74) rfl rfl rfl (gT hg74)) zsL (View.le_refl _) (Pur.loadN rfl ty_31 ?h26_0 ?h26_1) ?k26
      case h26_0 => first | (apply Rd.own_sub; exact zmE; exact Sub.ent_hash _ _ _ _ _) | (apply RdV.rd; apply RdV.sub0; assumption; exact Sub.ent_hash _ _ _ _ _)
      case h26_1 => first | rfl | assumption
      refine' SA.take 20 (by kernel_rfl) rfl rfl rfl (Wanted.guard (u := 74) rfl rfl rfl (gT hg74)) zsL (View.le_refl _) (Pur.bin rfl rfl ?h27_0) ?k27
      case h27_0 => (refine Bin.eqH isHash_31 ?_ ?_ <;> assumption)
      exact K74 _ zcR rfl
    case h24_1 =>
      intro hg74 K74
      refine SA.gskip 16 (u := 74) (by kernel_rfl) rfl rfl rfl rfl rfl rfl (sT hg74) zsL (View.le_refl _) ?_
      refine SA.gskip 17 (u := 74) (by kernel_rfl) rfl rfl rfl rfl rfl rfl (sT hg74) zsL (View.le_refl _) ?_
      refine SA.gskip 18 (u := 74) (by kernel_rfl) rfl rfl rfl rfl rfl rfl (sT hg74) zsL (View.le_refl _) ?_
      refine SA.gskip 19 (u := 74) (by kernel_rfl) rfl rfl rfl rfl rfl rfl (sT hg74) zsL (View.le_refl _) ?_
      refine SA.gskip 20 (u := 74) (by kernel_rfl) rfl rfl rfl rfl rfl rfl (sT hg74) zsL (View.le_refl _) ?_
      exact K74 _ zcR
    case h24_2 => kernel_rfl
    case h24_3 => exact Wanted.plain rfl
    refine SA.take 22 (by kernel_rfl) rfl rfl rfl (Wanted.plain rfl) zsL (View.le_refl _) (Pur.assign rfl) ?_
    refine SA.done (by kernel_rfl) ?_
    refine WQ.thn ?_
    refine WC.ret ?_
    refine WQ.ret1 Try.results9 rfl [] zsL (View.le_trans hle1 (View.le_trans hle2 (View.le_trans hle3 (View.le_trans hle4 hle5)))) ?_
    exact ⟨(boolT ⟨⟨⟨rfl, rfl⟩, rfl⟩, rfl⟩).symm, rfl⟩

end Go.Proofs.Ytgoooilgmabkmaa
namespace Go.Proofs.Ytgoooilgmabkmaa
open Go Go.Sl
set_option linter.unusedVariables false
set_option linter.unusedSimpArgs false
set_option maxRecDepth 100000

instance : DecidableEq NodeD := fun a b => decidable_of_iff (a.au = b.au ∧ a.cl = b.cl ∧ a.ps = b.ps ∧ a.ops = b.ops)
  ⟨fun ⟨h1, h2, h3, h4⟩ => by cases a; cases b; simp only at h1 h2 h3 h4; subst h1; subst h2; subst h3; subst h4; rfl, fun h => by subst h; exact ⟨rfl, rfl, rfl, rfl⟩⟩
instance : DecidableEq EntD := fun a b => decidable_of_iff (a.id = b.id ∧ a.node = b.node)
  ⟨fun ⟨h1, h2⟩ => by cases a; cases b; simp only at h1 h2; subst h1; subst h2; rfl, fun h => by subst h; exact ⟨rfl, rfl⟩⟩
theorem opD_eq {a b : OpD} : (((((a.kind = b.kind ∧ a.key = b.key) ∧ a.text = b.text) ∧ a.n = b.n) ∧ a.ato = b.ato) ∧ a.atn = b.atn) ↔ a = b := by
  constructor
  · rintro ⟨⟨⟨⟨⟨h1, h2⟩, h3⟩, h4⟩, h5⟩, h6⟩
    cases a; cases b
    simp only at h1 h2 h3 h4 h5 h6
    subst h1; subst h2; subst h3; subst h4; subst h5; subst h6; rfl
  · rintro rfl; exact ⟨⟨⟨⟨⟨rfl, rfl⟩, rfl⟩, rfl⟩, rfl⟩, rfl⟩
theorem entD_eq {a b : EntD} : (a.id = b.id ∧ a.node = b.node) ↔ a = b := by
  constructor
  · rintro ⟨h1, h2⟩
    cases a; cases b
    simp only at h1 h2
    subst h1; subst h2; rfl
  · rintro rfl; exact ⟨rfl, rfl⟩
theorem nodeD_eq {a b : NodeD} (h1 : a.au = b.au) (h2 : a.cl = b.cl) (h3 : a.ps = b.ps) (h4 : a.ops = b.ops) : a = b := by
  cases a; cases b
  simp only at h1 h2 h3 h4
  subst h1; subst h2; subst h3; subst h4; rfl

theorem r1_Same (σ : View) (av bv : Value) (a b : List Nat) (ha : Hashes σ av a) (hb : Hashes σ bv b) :
    TriP Try.prog 27 #[av, bv] σ (.bool (decide (a = b))) := by
  have ha' := ha; have hb' := hb
  obtain ⟨aa, ac, rfl, hac, hab⟩ := ha.shape
  obtain ⟨ba, bc, rfl, hbc, hbb⟩ := hb.shape
  refine Tri.of_body [(0, .slice aa a.length ac), (1, .slice ba b.length bc)] Try.func27 rfl Try.ntmps27 (by simp) rfl (fun Hr => ?_)
  rw [List.nil_append]
  refine WC.seq ?_
  refine WC.region ?_
  refine WL.pur (Pur.assign rfl) ?_
  refine WL.nil ?_
  refine WQ.thn ?_
  refine WC.seq ?_
  refine WC.seq ?_
  refine WC.region ?_
  refine WL.pur (Pur.move rfl) ?_
  refine WL.pur (Pur.len rfl isSlice_32) ?_
  refine WL.pur (Pur.move rfl) ?_
  refine WL.pur (Pur.len rfl isSlice_32) ?_
  refine' WL.pur (Pur.bin rfl rfl ?h1_0) ?k1
  case h1_0 => first | exact Bin.neN | exact Bin.neI
  refine WL.nil ?_
  refine WQ.thn ?_
  first | refine WC.cond rfl (fun hc0 => ?_) (fun hc0 => ?_) | refine WC.condB rfl (fun hc0 => ?_) (fun hc0 => ?_)
  · refine WC.seq ?_
    refine WC.region ?_
    refine WL.pur (Pur.assign rfl) ?_
    refine WL.nil ?_
    refine WQ.thn ?_
    refine WC.ret ?_
    refine WQ.thn_ret ?_
    refine WQ.ret1 Try.results27 rfl [] zsL (View.le_refl _) ?_
    refine ⟨?_, rfl, rfl⟩
    exact boolF (by rintro rfl; omega)
  · refine WC.skip ?_
    refine WQ.thn ?_
    refine WC.seq ?_
    refine WC.seq ?_
    refine WC.region ?_
    refine WL.pur (Pur.assign rfl) ?_
    refine WL.nil ?_
    refine WQ.thn ?_
    refine WC.block ?_
    refine WC.loop (fun j m σ' H' => ∃ i : Nat, j = a.length - i ∧ i ≤ a.length ∧ a.take i = b.take i ∧ m = [(0, .slice aa a.length ac), (1, .slice ba b.length bc), (5, .int .i64 (i : Int))] ∧ σ' = σ ∧ H' = Hr) ⟨0, rfl, by omega, by simp, rfl, rfl, rfl⟩ zcV zsL ?_
    rintro _ _ σ Hr ⟨i, rfl, hi, heq, rfl, rfl, rfl⟩
    refine WC.seq ?_
    refine WC.seq ?_
    refine WC.region ?_
    refine WL.pur (Pur.move rfl) ?_
    refine WL.pur (Pur.move rfl) ?_
    refine WL.pur (Pur.len rfl isSlice_32) ?_
    refine' WL.pur (Pur.bin rfl rfl ?h2_0) ?k2
    case h2_0 => first | exact Bin.ltN | exact Bin.ltI | exact Bin.ltS
    refine WL.nil ?_
    refine WQ.thn ?_
    first | refine WC.cond rfl (fun hc1 => ?_) (fun hc1 => ?_) | refine WC.condB rfl (fun hc1 => ?_) (fun hc1 => ?_)
    · obtain ⟨ab, aoff, ac2, e1, _, _, haat⟩ := ha'.at (by omega)
      cases e1
      obtain ⟨bb, boff, bc2, e2, _, _, hbat⟩ := hb'.at (by omega)
      cases e2
      obtain ⟨x, hx⟩ : ∃ x, a[i]? = some x := ⟨_, List.getElem?_eq_getElem (by omega)⟩
      obtain ⟨y, hy⟩ : ∃ y, b[i]? = some y := ⟨_, List.getElem?_eq_getElem (by omega)⟩
      obtain ⟨vx, _, _, ⟨rfl, hxo⟩, hrx⟩ := haat i x hx
      obtain ⟨vy, _, _, ⟨rfl, hyo⟩, hry⟩ := hbat i y hy
      refine WC.skip ?_
      refine WQ.thn ?_
      refine WC.seq ?_
      refine WC.block ?_
      refine WC.seq ?_
      refine WC.drawH 9 9 mixed (by kernel_rfl) rfl ?_
      refine SA.take 0 (by kernel_rfl) rfl rfl rfl (Wanted.plain rfl) zsL (View.le_refl _) (Pur.move rfl) ?_
      refine SA.take 1 (by kernel_rfl) rfl rfl rfl (Wanted.plain rfl) zsL (View.le_refl _) (Pur.move rfl) ?_
      refine' SA.take 2 (by kernel_rfl) rfl rfl rfl (Wanted.plain rfl) zsL (View.le_refl _) (Pur.indexAddr rfl rfl sl_32 ?h3_0) ?k3
      case h3_0 => omega
      refine' SA.take 3 (by kernel_rfl) rfl rfl rfl (Wanted.plain rfl) zsL (View.le_refl _) (Pur.loadN rfl ty_31 ?h4_0 ?h4_1) ?k4
      case h4_0 => exact RdV.rd hrx
      case h4_1 => first | rfl | assumption
      refine SA.take 4 (by kernel_rfl) rfl rfl rfl (Wanted.plain rfl) zsL (View.le_refl _) (Pur.move rfl) ?_
      refine SA.take 5 (by kernel_rfl) rfl rfl rfl (Wanted.plain rfl) zsL (View.le_refl _) (Pur.move rfl) ?_
      refine' SA.take 6 (by kernel_rfl) rfl rfl rfl (Wanted.plain rfl) zsL (View.le_refl _) (Pur.indexAddr rfl rfl sl_32 ?h5_0) ?k5
      case h5_0 => omega
      refine' SA.take 7 (by kernel_rfl) rfl rfl rfl (Wanted.plain rfl) zsL (View.le_refl _) (Pur.loadN rfl ty_31 ?h6_0 ?h6_1) ?k6
      case h6_0 => exact RdV.rd hry
      case h6_1 => first | rfl | assumption
      refine' SA.take 8 (by kernel_rfl) rfl rfl rfl (Wanted.plain rfl) zsL (View.le_refl _) (Pur.bin rfl rfl ?h7_0) ?k7
      case h7_0 => (refine Bin.neH isHash_31 ?_ ?_ <;> assumption)
      refine SA.done (by kernel_rfl) ?_
      refine WQ.thn ?_
      first | refine WC.cond rfl (fun hc2 => ?_) (fun hc2 => ?_) | refine WC.condB rfl (fun hc2 => ?_) (fun hc2 => ?_)
      · refine WC.seq ?_
        refine WC.region ?_
        refine WL.pur (Pur.assign rfl) ?_
        refine WL.nil ?_
        refine WQ.thn ?_
        refine WC.ret ?_
        refine WQ.blk_ret ?_
        refine WQ.thn_ret ?_
        refine WQ.back_ret ?_
        refine WQ.blk_ret ?_
        refine WQ.thn_ret ?_
        refine WQ.ret1 Try.results27 rfl [] zsL (View.le_refl _) ?_
        refine ⟨?_, rfl, rfl⟩
        exact boolF (by rintro rfl; rw [hx] at hy; cases hy; exact hc2 rfl)
      · refine WC.skip ?_
        refine WQ.blk ?_
        refine WQ.thn ?_
        refine WC.region ?_
        refine WL.pur (Pur.move rfl) ?_
        refine' WL.pur (Pur.bin rfl rfl ?h8_0) ?k8
        case h8_0 => first | (refine Bin.addN (b := 1) ?_; omega) | (refine Bin.addI ?_; omega)
        refine WL.pur (Pur.assign rfl) ?_
        refine WL.nil ?_
        refine WQ.back _ ⟨i + 1, rfl, by omega, by rw [List.take_add_one, List.take_add_one, hx, hy, heq, Decidable.not_not.1 hc2], rfl, rfl, rfl⟩ (by omega) zcV zsL
    · refine WC.exit ?_
      refine WQ.thn_exit ?_
      refine WQ.back_exit ?_
      refine WQ.blk_here ?_
      refine WQ.thn ?_
      refine WC.seq ?_
      refine WC.region ?_
      refine WL.pur (Pur.assign rfl) ?_
      refine WL.nil ?_
      refine WQ.thn ?_
      refine WC.ret ?_
      refine WQ.ret1 Try.results27 rfl [] zsL (View.le_refl _) ?_
      refine ⟨?_, rfl, rfl⟩
      rw [List.take_of_length_le (by omega), List.take_of_length_le (by omega)] at heq; exact boolT heq

theorem r4_Same (σ : View) (a b : OpD) (ha : a.ok) (hb : b.ok) :
    TriP Try.prog 72 #[.agg a.cells.toArray, .agg b.cells.toArray] σ (.bool (decide (a = b))) := by
  have ha5 := ha.2.2.2.2.1
  have hb5 := hb.2.2.2.2.1
  refine Tri.of_body [(0, .agg a.cells.toArray), (1, .agg b.cells.toArray)] Try.func72 rfl Try.ntmps72 (by simp) rfl (fun Hr => ?_)
  rw [List.nil_append]
  refine WC.seq ?_
  refine WC.region ?_
  refine WL.new (New.boxN rfl) (fun b2 => ?_)
  refine WL.new (New.boxN rfl) (fun b3 => ?_)
  refine WL.pur (Pur.assign rfl) ?_
  refine WL.nil ?_
  refine WQ.thn ?_
  refine WC.seq ?_
  refine WC.region ?_
  refine WL.pur (Pur.fieldAddr rfl fo_53_0) ?_
  refine' WL.pur (Pur.load1 rfl ty_3 ?h1_0) ?k1
  case h1_0 => first | (apply Rd.own1; exact zmE; rfl) | (apply RdV.rd; apply RdV.idx (i := 0); assumption; rfl)
  refine WL.pur (Pur.fieldAddr rfl fo_53_0) ?_
  refine' WL.pur (Pur.load1 rfl ty_3 ?h2_0) ?k2
  case h2_0 => first | (apply Rd.own1; exact zmE; rfl) | (apply RdV.rd; apply RdV.idx (i := 0); assumption; rfl)
  refine' WL.pur (Pur.bin rfl rfl ?h3_0) ?k3
  case h3_0 => first | exact Bin.eqN | exact Bin.eqI
  refine WL.pur (Pur.move rfl) ?_
  refine' WL.andp (u := 10) (t := 16) rfl ?h4_0 ?h4_1 ?h4_2 rfl ?k4
  case h4_0 =>
    intro hg10 K10
    refine WL.gpur (u := 10) rfl rfl (gT hg10) (Pur.fieldAddr rfl fo_53_1) ?_
    refine' WL.gpur (u := 10) rfl rfl (gT hg10) (Pur.load1 rfl ty_9 ?h5_0) ?k5
    case h5_0 => first | (apply Rd.own1; exact zmE; rfl) | (apply RdV.rd; apply RdV.idx (i := 1); assumption; rfl) | (apply RdV.rd; apply RdV.idx (off := 0) (i := 1); assumption; rfl)
    refine WL.gpur (u := 10) rfl rfl (gT hg10) (Pur.fieldAddr rfl fo_53_1) ?_
    refine' WL.gpur (u := 10) rfl rfl (gT hg10) (Pur.load1 rfl ty_9 ?h6_0) ?k6
    case h6_0 => first | (apply Rd.own1; exact zmE; rfl) | (apply RdV.rd; apply RdV.idx (i := 1); assumption; rfl) | (apply RdV.rd; apply RdV.idx (off := 0) (i := 1); assumption; rfl)
    refine' WL.gpur (u := 10) rfl rfl (gT hg10) (Pur.bin rfl rfl ?h7_0) ?k7
    case h7_0 => exact Bin.eqS
    exact K10 _ zcR rfl
  case h4_1 =>
    intro hg10 K10
    refine WL.gskip (u := 10) rfl rfl (sT hg10) ?_
    refine WL.gskip (u := 10) rfl rfl (sT hg10) ?_
    refine WL.gskip (u := 10) rfl rfl (sT hg10) ?_
    refine WL.gskip (u := 10) rfl rfl (sT hg10) ?_
    refine WL.gskip (u := 10) rfl rfl (sT hg10) ?_
    exact K10 _ zcR
  case h4_2 => exact Wanted.plain rfl
  refine WL.pur (Pur.move rfl) ?_
  refine' WL.andp (u := 17) (t := 23) rfl ?h8_0 ?h8_1 ?h8_2 rfl ?k8
  case h8_0 =>
    intro hg17 K17
    refine WL.gpur (u := 17) rfl rfl (gT hg17) (Pur.fieldAddr rfl fo_53_2) ?_
    refine' WL.gpur (u := 17) rfl rfl (gT hg17) (Pur.load1 rfl ty_9 ?h9_0) ?k9
    case h9_0 => first | (apply Rd.own1; exact zmE; rfl) | (apply RdV.rd; apply RdV.idx (i := 2); assumption; rfl) | (apply RdV.rd; apply RdV.idx (off := 0) (i := 2); assumption; rfl)
    refine WL.gpur (u := 17) rfl rfl (gT hg17) (Pur.fieldAddr rfl fo_53_2) ?_
    refine' WL.gpur (u := 17) rfl rfl (gT hg17) (Pur.load1 rfl ty_9 ?h10_0) ?k10
    case h10_0 => first | (apply Rd.own1; exact zmE; rfl) | (apply RdV.rd; apply RdV.idx (i := 2); assumption; rfl) | (apply RdV.rd; apply RdV.idx (off := 0) (i := 2); assumption; rfl)
    refine' WL.gpur (u := 17) rfl rfl (gT hg17) (Pur.bin rfl rfl ?h11_0) ?k11
    case h11_0 => exact Bin.eqS
    exact K17 _ zcR rfl
  case h8_1 =>
    intro hg17 K17
    refine WL.gskip (u := 17) rfl rfl (sT hg17) ?_
    refine WL.gskip (u := 17) rfl rfl (sT hg17) ?_
    refine WL.gskip (u := 17) rfl rfl (sT hg17) ?_
    refine WL.gskip (u := 17) rfl rfl (sT hg17) ?_
    refine WL.gskip (u := 17) rfl rfl (sT hg17) ?_
    exact K17 _ zcR
  case h8_2 => exact Wanted.plain rfl
  refine WL.pur (Pur.move rfl) ?_
  refine' WL.andp (u := 24) (t := 30) rfl ?h12_0 ?h12_1 ?h12_2 rfl ?k12
  case h12_0 =>
    intro hg24 K24
    refine WL.gpur (u := 24) rfl rfl (gT hg24) (Pur.fieldAddr rfl fo_53_3) ?_
    refine' WL.gpur (u := 24) rfl rfl (gT hg24) (Pur.load1 rfl ty_2 ?h13_0) ?k13
    case h13_0 => first | (apply Rd.own1; exact zmE; rfl) | (apply RdV.rd; apply RdV.idx (i := 3); assumption; rfl) | (apply RdV.rd; apply RdV.idx (off := 0) (i := 3); assumption; rfl)
    refine WL.gpur (u := 24) rfl rfl (gT hg24) (Pur.fieldAddr rfl fo_53_3) ?_
    refine' WL.gpur (u := 24) rfl rfl (gT hg24) (Pur.load1 rfl ty_2 ?h14_0) ?k14
    case h14_0 => first | (apply Rd.own1; exact zmE; rfl) | (apply RdV.rd; apply RdV.idx (i := 3); assumption; rfl) | (apply RdV.rd; apply RdV.idx (off := 0) (i := 3); assumption; rfl)
    refine' WL.gpur (u := 24) rfl rfl (gT hg24) (Pur.bin rfl rfl ?h15_0) ?k15
    case h15_0 => first | exact Bin.eqN | exact Bin.eqI
    exact K24 _ zcR rfl
  case h12_1 =>
    intro hg24 K24
    refine WL.gskip (u := 24) rfl rfl (sT hg24) ?_
    refine WL.gskip (u := 24) rfl rfl (sT hg24) ?_
    refine WL.gskip (u := 24) rfl rfl (sT hg24) ?_
    refine WL.gskip (u := 24) rfl rfl (sT hg24) ?_
    refine WL.gskip (u := 24) rfl rfl (sT hg24) ?_
    exact K24 _ zcR
  case h12_2 => exact Wanted.plain rfl
  refine WL.pur (Pur.move rfl) ?_
  refine' WL.andp (u := 31) (t := 39) rfl ?h16_0 ?h16_1 ?h16_2 rfl ?k16
  case h16_0 =>
    intro hg31 K31
    refine WL.gpur (u := 31) rfl rfl (gT hg31) (Pur.fieldAddr rfl fo_53_4) ?_
    refine WL.gpur (u := 31) rfl rfl (gT hg31) (Pur.fieldAddr rfl fo_51_1) ?_
    refine' WL.gpur (u := 31) rfl rfl (gT hg31) (Pur.load1 rfl ty_3 ?h17_0) ?k17
    case h17_0 => first | (apply Rd.own1; exact zmE; rfl) | (apply RdV.rd; apply RdV.idx (i := 36); assumption; rfl) | (apply RdV.rd; apply RdV.idx (off := 0) (i := 36); assumption; rfl)
    refine WL.gpur (u := 31) rfl rfl (gT hg31) (Pur.fieldAddr rfl fo_53_4) ?_
    refine WL.gpur (u := 31) rfl rfl (gT hg31) (Pur.fieldAddr rfl fo_51_1) ?_
    refine' WL.gpur (u := 31) rfl rfl (gT hg31) (Pur.load1 rfl ty_3 ?h18_0) ?k18
    case h18_0 => first | (apply Rd.own1; exact zmE; rfl) | (apply RdV.rd; apply RdV.idx (i := 36); assumption; rfl) | (apply RdV.rd; apply RdV.idx (off := 0) (i := 36); assumption; rfl)
    refine' WL.gpur (u := 31) rfl rfl (gT hg31) (Pur.bin rfl rfl ?h19_0) ?k19
    case h19_0 => first | exact Bin.eqN | exact Bin.eqI
    exact K31 _ zcR rfl
  case h16_1 =>
    intro hg31 K31
    refine WL.gskip (u := 31) rfl rfl (sT hg31) ?_
    refine WL.gskip (u := 31) rfl rfl (sT hg31) ?_
    refine WL.gskip (u := 31) rfl rfl (sT hg31) ?_
    refine WL.gskip (u := 31) rfl rfl (sT hg31) ?_
    refine WL.gskip (u := 31) rfl rfl (sT hg31) ?_
    refine WL.gskip (u := 31) rfl rfl (sT hg31) ?_
    refine WL.gskip (u := 31) rfl rfl (sT hg31) ?_
    exact K31 _ zcR
  case h16_2 => exact Wanted.plain rfl
  refine WL.pur (Pur.move rfl) ?_
  refine' WL.andp (u := 40) (t := 48) rfl ?h20_0 ?h20_1 ?h20_2 rfl ?k20
  case h20_0 =>
    intro hg40 K40
    refine WL.gpur (u := 40) rfl rfl (gT hg40) (Pur.fieldAddr rfl fo_53_4) ?_
    refine WL.gpur (u := 40) rfl rfl (gT hg40) (Pur.fieldAddr rfl fo_51_0) ?_
    refine' WL.gpur (u := 40) rfl rfl (gT hg40) (Pur.loadN rfl ty_31 ?h21_0 ?h21_1) ?k21
    case h21_0 => first | (apply Rd.own_sub; exact zmE; exact Sub.op_hash _ _ _ _ _ _) | (apply RdV.rd; apply RdV.sub (i := 4); assumption; exact Sub.op_hash _ _ _ _ _ _)
    case h21_1 => first | rfl | assumption
    refine WL.gpur (u := 40) rfl rfl (gT hg40) (Pur.fieldAddr rfl fo_53_4) ?_
    refine WL.gpur (u := 40) rfl rfl (gT hg40) (Pur.fieldAddr rfl fo_51_0) ?_
    refine' WL.gpur (u := 40) rfl rfl (gT hg40) (Pur.loadN rfl ty_31 ?h22_0 ?h22_1) ?k22
    case h22_0 => first | (apply Rd.own_sub; exact zmE; exact Sub.op_hash _ _ _ _ _ _) | (apply RdV.rd; apply RdV.sub (i := 4); assumption; exact Sub.op_hash _ _ _ _ _ _)
    case h22_1 => first | rfl | assumption
    refine' WL.gpur (u := 40) rfl rfl (gT hg40) (Pur.bin rfl rfl ?h23_0) ?k23
    case h23_0 => (refine Bin.eqH isHash_31 ?_ ?_ <;> assumption)
    exact K40 _ zcR rfl
  case h20_1 =>
    intro hg40 K40
    refine WL.gskip (u := 40) rfl rfl (sT hg40) ?_
    refine WL.gskip (u := 40) rfl rfl (sT hg40) ?_
    refine WL.gskip (u := 40) rfl rfl (sT hg40) ?_
    refine WL.gskip (u := 40) rfl rfl (sT hg40) ?_
    refine WL.gskip (u := 40) rfl rfl (sT hg40) ?_
    refine WL.gskip (u := 40) rfl rfl (sT hg40) ?_
    refine WL.gskip (u := 40) rfl rfl (sT hg40) ?_
    exact K40 _ zcR
  case h20_2 => exact Wanted.plain rfl
  refine WL.pur (Pur.assign rfl) ?_
  refine WL.nil ?_
  refine WQ.thn ?_
  refine WC.ret ?_
  refine WQ.ret1 Try.results72 rfl [] zsL (View.le_refl _) ?_
  refine ⟨?_, rfl, rfl⟩
  exact decB opD_eq

theorem r5_Same (σ : View) (x y : NodeD) (pv ov qv rv : Value) (hx : NodeR σ x pv ov) (hy : NodeR σ y qv rv) :
    TriP Try.prog 60 #[.agg (nodeCells x.au x.cl pv ov).toArray, .agg (nodeCells y.au y.cl qv rv).toArray] σ (.bool (decide (x = y))) := by
  obtain ⟨hxp, hxo, _, _⟩ := hx
  obtain ⟨hyp, hyo, _, _⟩ := hy
  obtain ⟨pa, pc, rfl, hpc, hpb⟩ := hxp.shape
  obtain ⟨oa, oc, rfl, hoc, hob⟩ := hxo.shape
  obtain ⟨qa, qc, rfl, hqc, hqb⟩ := hyp.shape
  obtain ⟨ra, rc, rfl, hrc, hrb⟩ := hyo.shape
  obtain ⟨pb, poff, hep, hpat⟩ := hxp.rds
  obtain ⟨ob, ooff, heo, hoat⟩ := hxo.rds
  obtain ⟨qb, qoff, heq, hqat⟩ := hyp.rds
  obtain ⟨rb, roff, her, hrat⟩ := hyo.rds
  refine Tri.of_body [(0, .agg (nodeCells x.au x.cl (.slice pa x.ps.length pc) (.slice oa x.ops.length oc)).toArray), (1, .agg (nodeCells y.au y.cl (.slice qa y.ps.length qc) (.slice ra y.ops.length rc)).toArray)] Try.func60 rfl Try.ntmps60 (by simp) rfl (fun Hr => ?_)
  rw [List.nil_append]
  refine WC.seq ?_
  refine WC.region ?_
  refine WL.new (New.boxN rfl) (fun b2 => ?_)
  refine WL.new (New.boxN rfl) (fun b3 => ?_)
  refine WL.pur (Pur.assign rfl) ?_
  refine WL.nil ?_
  refine WQ.thn ?_
  refine WC.seq ?_
  refine WC.seq ?_
  refine WC.region ?_
  refine WL.pur (Pur.fieldAddr rfl fo_35_0) ?_
  refine' WL.pur (Pur.load1 rfl ty_3 ?h1_0) ?k1
  case h1_0 => first | (apply Rd.own1; exact zmE; rfl) | (apply RdV.rd; apply RdV.idx (i := 0); assumption; rfl)
  refine WL.pur (Pur.fieldAddr rfl fo_35_0) ?_
  refine' WL.pur (Pur.load1 rfl ty_3 ?h2_0) ?k2
  case h2_0 => first | (apply Rd.own1; exact zmE; rfl) | (apply RdV.rd; apply RdV.idx (i := 0); assumption; rfl)
  refine' WL.pur (Pur.bin rfl rfl ?h3_0) ?k3
  case h3_0 => first | exact Bin.neN | exact Bin.neI
  refine WL.pur (Pur.move rfl) ?_
  refine' WL.orp (u := 12) (t := 18) rfl ?h4_0 ?h4_1 ?h4_2 rfl ?k4
  case h4_0 =>
    intro hg12 K12
    refine WL.gpur (u := 12) rfl rfl (gF hg12) (Pur.fieldAddr rfl fo_35_1) ?_
    refine' WL.gpur (u := 12) rfl rfl (gF hg12) (Pur.load1 rfl ty_3 ?h5_0) ?k5
    case h5_0 => first | (apply Rd.own1; exact zmE; rfl) | (apply RdV.rd; apply RdV.idx (i := 1); assumption; rfl) | (apply RdV.rd; apply RdV.idx (off := 0) (i := 1); assumption; rfl)
    refine WL.gpur (u := 12) rfl rfl (gF hg12) (Pur.fieldAddr rfl fo_35_1) ?_
    refine' WL.gpur (u := 12) rfl rfl (gF hg12) (Pur.load1 rfl ty_3 ?h6_0) ?k6
    case h6_0 => first | (apply Rd.own1; exact zmE; rfl) | (apply RdV.rd; apply RdV.idx (i := 1); assumption; rfl) | (apply RdV.rd; apply RdV.idx (off := 0) (i := 1); assumption; rfl)
    refine' WL.gpur (u := 12) rfl rfl (gF hg12) (Pur.bin rfl rfl ?h7_0) ?k7
    case h7_0 => first | exact Bin.neN | exact Bin.neI
    exact K12 _ zcR rfl
  case h4_1 =>
    intro hg12 K12
    refine WL.gskip (u := 12) rfl rfl (sF hg12) ?_
    refine WL.gskip (u := 12) rfl rfl (sF hg12) ?_
    refine WL.gskip (u := 12) rfl rfl (sF hg12) ?_
    refine WL.gskip (u := 12) rfl rfl (sF hg12) ?_
    refine WL.gskip (u := 12) rfl rfl (sF hg12) ?_
    exact K12 _ zcR
  case h4_2 => exact Wanted.plain rfl
  refine WL.pur (Pur.move rfl) ?_
  refine' WL.orp (u := 19) (t := 27) rfl ?h8_0 ?h8_1 ?h8_2 rfl ?k8
  case h8_0 =>
    intro hg19 K19
    refine WL.gpur (u := 19) rfl rfl (gF hg19) (Pur.fieldAddr rfl fo_35_2) ?_
    refine' WL.gpur (u := 19) rfl rfl (gF hg19) (Pur.load1 rfl ty_32 ?h9_0) ?k9
    case h9_0 => first | (apply Rd.own1; exact zmE; rfl) | (apply RdV.rd; apply RdV.idx (i := 2); assumption; rfl) | (apply RdV.rd; apply RdV.idx (off := 0) (i := 2); assumption; rfl)
    refine WL.gpur (u := 19) rfl rfl (gF hg19) (Pur.len rfl isSlice_32) ?_
    refine WL.gpur (u := 19) rfl rfl (gF hg19) (Pur.fieldAddr rfl fo_35_2) ?_
    refine' WL.gpur (u := 19) rfl rfl (gF hg19) (Pur.load1 rfl ty_32 ?h10_0) ?k10
    case h10_0 => first | (apply Rd.own1; exact zmE; rfl) | (apply RdV.rd; apply RdV.idx (i := 2); assumption; rfl) | (apply RdV.rd; apply RdV.idx (off := 0) (i := 2); assumption; rfl)
    refine WL.gpur (u := 19) rfl rfl (gF hg19) (Pur.len rfl isSlice_32) ?_
    refine' WL.gpur (u := 19) rfl rfl (gF hg19) (Pur.bin rfl rfl ?h11_0) ?k11
    case h11_0 => first | exact Bin.neN | exact Bin.neI
    exact K19 _ zcR rfl
  case h8_1 =>
    intro hg19 K19
    refine WL.gskip (u := 19) rfl rfl (sF hg19) ?_
    refine WL.gskip (u := 19) rfl rfl (sF hg19) ?_
    refine WL.gskip (u := 19) rfl rfl (sF hg19) ?_
    refine WL.gskip (u := 19) rfl rfl (sF hg19) ?_
    refine WL.gskip (u := 19) rfl rfl (sF hg19) ?_
    refine WL.gskip (u := 19) rfl rfl (sF hg19) ?_
    refine WL.gskip (u := 19) rfl rfl (sF hg19) ?_
    exact K19 _ zcR
  case h8_2 => exact Wanted.plain rfl
  refine WL.pur (Pur.move rfl) ?_
  refine' WL.orp (u := 28) (t := 36) rfl ?h12_0 ?h12_1 ?h12_2 rfl ?k12
  case h12_0 =>
    intro hg28 K28
    refine WL.gpur (u := 28) rfl rfl (gF hg28) (Pur.fieldAddr rfl fo_35_3) ?_
    refine' WL.gpur (u := 28) rfl rfl (gF hg28) (Pur.load1 rfl ty_33 ?h13_0) ?k13
    case h13_0 => first | (apply Rd.own1; exact zmE; rfl) | (apply RdV.rd; apply RdV.idx (i := 3); assumption; rfl) | (apply RdV.rd; apply RdV.idx (off := 0) (i := 3); assumption; rfl)
    refine WL.gpur (u := 28) rfl rfl (gF hg28) (Pur.len rfl isSlice_33) ?_
    refine WL.gpur (u := 28) rfl rfl (gF hg28) (Pur.fieldAddr rfl fo_35_3) ?_
    refine' WL.gpur (u := 28) rfl rfl (gF hg28) (Pur.load1 rfl ty_33 ?h14_0) ?k14
    case h14_0 => first | (apply Rd.own1; exact zmE; rfl) | (apply RdV.rd; apply RdV.idx (i := 3); assumption; rfl) | (apply RdV.rd; apply RdV.idx (off := 0) (i := 3); assumption; rfl)
    refine WL.gpur (u := 28) rfl rfl (gF hg28) (Pur.len rfl isSlice_33) ?_
    refine' WL.gpur (u := 28) rfl rfl (gF hg28) (Pur.bin rfl rfl ?h15_0) ?k15
    case h15_0 => first | exact Bin.neN | exact Bin.neI
    exact K28 _ zcR rfl
  case h12_1 =>
    intro hg28 K28
    refine WL.gskip (u := 28) rfl rfl (sF hg28) ?_
    refine WL.gskip (u := 28) rfl rfl (sF hg28) ?_
    refine WL.gskip (u := 28) rfl rfl (sF hg28) ?_
    refine WL.gskip (u := 28) rfl rfl (sF hg28) ?_
    refine WL.gskip (u := 28) rfl rfl (sF hg28) ?_
    refine WL.gskip (u := 28) rfl rfl (sF hg28) ?_
    refine WL.gskip (u := 28) rfl rfl (sF hg28) ?_
    exact K28 _ zcR
  case h12_2 => exact Wanted.plain rfl
  refine WL.nil ?_
  refine WQ.thn ?_
  first | refine WC.cond rfl (fun hc0 => ?_) (fun hc0 => ?_) | refine WC.condB rfl (fun hc0 => ?_) (fun hc0 => ?_)
  · refine WC.seq ?_
    refine WC.region ?_
    refine WL.pur (Pur.assign rfl) ?_
    refine WL.nil ?_
    refine WQ.thn ?_
    refine WC.ret ?_
    refine WQ.thn_ret ?_
    refine WQ.ret1 Try.results60 rfl [] zsL (View.le_refl _) ?_
    refine ⟨?_, rfl, rfl⟩
    exact boolF (by rintro rfl; simp at hc0)
  · have hlens : ((x.au = y.au ∧ x.cl = y.cl) ∧ x.ps.length = y.ps.length) ∧ x.ops.length = y.ops.length := by
      refine ⟨⟨⟨?_, ?_⟩, ?_⟩, ?_⟩
      · exact Decidable.not_not.1 fun h => hc0 (.inl (.inl (.inl h)))
      · exact Decidable.not_not.1 fun h => hc0 (.inl (.inl (.inr h)))
      · exact Decidable.not_not.1 fun h => hc0 (.inl (.inr h))
      · exact Decidable.not_not.1 fun h => hc0 (.inr h)
    obtain ⟨⟨⟨eau, ecl⟩, epl⟩, eol⟩ := hlens
    refine WC.skip ?_
    refine WQ.thn ?_
    refine WC.seq ?_
    refine WC.seq ?_
    refine WC.region ?_
    refine WL.pur (Pur.assign rfl) ?_
    refine WL.nil ?_
    refine WQ.thn ?_
    refine WC.block ?_
    refine WC.loop (fun j m σ' H' => ∃ i : Nat, j = x.ps.length - i ∧ i ≤ x.ps.length ∧ x.ps.take i = y.ps.take i ∧ m = [(2, .pointer (some ⟨b2, 0, none⟩)), (3, .pointer (some ⟨b3, 0, none⟩)), (5, .int .i64 (i : Int))] ∧ σ' = σ ∧ H' = (b3, rowO 35 (nodeCells y.au y.cl (.slice qa y.ps.length qc) (.slice ra y.ops.length rc))) :: (b2, rowO 35 (nodeCells x.au x.cl (.slice pa x.ps.length pc) (.slice oa x.ops.length oc))) :: Hr) ⟨0, rfl, by omega, by simp, rfl, rfl, rfl⟩ zcV zsL ?_
    rintro _ _ σ Hr ⟨i, rfl, hi, hps, rfl, rfl, rfl⟩
    refine WC.seq ?_
    refine WC.seq ?_
    refine WC.region ?_
    refine WL.pur (Pur.move rfl) ?_
    refine WL.pur (Pur.fieldAddr rfl fo_35_2) ?_
    refine' WL.pur (Pur.load1 rfl ty_32 ?h16_0) ?k16
    case h16_0 => first | (apply Rd.own1; exact zmE; rfl) | (apply RdV.rd; apply RdV.idx (i := 2); assumption; rfl) | (apply RdV.rd; apply RdV.idx (off := 0) (i := 2); assumption; rfl)
    refine WL.pur (Pur.len rfl isSlice_32) ?_
    refine' WL.pur (Pur.bin rfl rfl ?h17_0) ?k17
    case h17_0 => first | exact Bin.ltN | exact Bin.ltI | exact Bin.ltS
    refine WL.nil ?_
    refine WQ.thn ?_
    first | refine WC.cond rfl (fun hc1 => ?_) (fun hc1 => ?_) | refine WC.condB rfl (fun hc1 => ?_) (fun hc1 => ?_)
    · obtain ⟨u, hu⟩ : ∃ u, x.ps[i]? = some u := ⟨_, List.getElem?_eq_getElem (by omega)⟩
      obtain ⟨v, hv⟩ : ∃ v, y.ps[i]? = some v := ⟨_, List.getElem?_eq_getElem (by omega)⟩
      obtain ⟨_, _, _, ⟨rfl, hxu⟩, hru⟩ := hpat i u hu
      obtain ⟨_, _, _, ⟨rfl, hyv⟩, hrv⟩ := hqat i v hv
      refine WC.skip ?_
      refine WQ.thn ?_
      refine WC.seq ?_
      refine WC.block ?_
      refine WC.seq ?_
      refine WC.drawH 11 11 mixed (by kernel_rfl) rfl ?_
      refine SA.take 0 (by kernel_rfl) rfl rfl rfl (Wanted.plain rfl) zsL (View.le_refl _) (Pur.fieldAddr rfl fo_35_2) ?_
      refine' SA.take 1 (by kernel_rfl) rfl rfl rfl (Wanted.plain rfl) zsL (View.le_refl _) (Pur.load1 rfl ty_32 ?h18_0) ?k18
      case h18_0 => first | (apply Rd.own1; exact zmE; rfl) | (apply RdV.rd; apply RdV.idx (i := 2); assumption; rfl) | (apply RdV.rd; apply RdV.idx (off := 0) (i := 2); assumption; rfl)
      refine SA.take 2 (by kernel_rfl) rfl rfl rfl (Wanted.plain rfl) zsL (View.le_refl _) (Pur.move rfl) ?_
      refine' SA.take 3 (by kernel_rfl) rfl rfl rfl (Wanted.plain rfl) zsL (View.le_refl _) (Pur.indexAddr (eqA (hep (by omega))) rfl sl_32 ?h19_0) ?k19
      case h19_0 => omega
      refine' SA.take 4 (by kernel_rfl) rfl rfl rfl (Wanted.plain rfl) zsL (View.le_refl _) (Pur.loadN rfl ty_31 ?h20_0 ?h20_1) ?k20
      case h20_0 => exact RdV.rd hru
      case h20_1 => first | rfl | assumption
      refine SA.take 5 (by kernel_rfl) rfl rfl rfl (Wanted.plain rfl) zsL (View.le_refl _) (Pur.fieldAddr rfl fo_35_2) ?_
      refine' SA.take 6 (by kernel_rfl) rfl rfl rfl (Wanted.plain rfl) zsL (View.le_refl _) (Pur.load1 rfl ty_32 ?h21_0) ?k21
      case h21_0 => first | (apply Rd.own1; exact zmE; rfl) | (apply RdV.rd; apply RdV.idx (i := 2); assumption; rfl) | (apply RdV.rd; apply RdV.idx (off := 0) (i := 2); assumption; rfl)
      refine SA.take 7 (by kernel_rfl) rfl rfl rfl (Wanted.plain rfl) zsL (View.le_refl _) (Pur.move rfl) ?_
      refine' SA.take 8 (by kernel_rfl) rfl rfl rfl (Wanted.plain rfl) zsL (View.le_refl _) (Pur.indexAddr (eqA (heq (by omega))) rfl sl_32 ?h22_0) ?k22
      case h22_0 => omega
      refine' SA.take 9 (by kernel_rfl) rfl rfl rfl (Wanted.plain rfl) zsL (View.le_refl _) (Pur.loadN rfl ty_31 ?h23_0 ?h23_1) ?k23
      case h23_0 => exact RdV.rd hrv
      case h23_1 => first | rfl | assumption
      refine' SA.take 10 (by kernel_rfl) rfl rfl rfl (Wanted.plain rfl) zsL (View.le_refl _) (Pur.bin rfl rfl ?h24_0) ?k24
      case h24_0 => (refine Bin.neH isHash_31 ?_ ?_ <;> assumption)
      refine SA.done (by kernel_rfl) ?_
      refine WQ.thn ?_
      first | refine WC.cond rfl (fun hc2 => ?_) (fun hc2 => ?_) | refine WC.condB rfl (fun hc2 => ?_) (fun hc2 => ?_)
      · refine WC.seq ?_
        refine WC.region ?_
        refine WL.pur (Pur.assign rfl) ?_
        refine WL.nil ?_
        refine WQ.thn ?_
        refine WC.ret ?_
        refine WQ.blk_ret ?_
        refine WQ.thn_ret ?_
        refine WQ.back_ret ?_
        refine WQ.blk_ret ?_
        refine WQ.thn_ret ?_
        refine WQ.ret1 Try.results60 rfl [] zsL (View.le_refl _) ?_
        refine ⟨?_, rfl, rfl⟩
        exact boolF (by rintro rfl; rw [hu] at hv; cases hv; exact hc2 rfl)
      · refine WC.skip ?_
        refine WQ.blk ?_
        refine WQ.thn ?_
        refine WC.region ?_
        refine WL.pur (Pur.move rfl) ?_
        refine' WL.pur (Pur.bin rfl rfl ?h25_0) ?k25
        case h25_0 => first | (refine Bin.addN (b := 1) ?_; omega) | (refine Bin.addI ?_; omega)
        refine WL.pur (Pur.assign rfl) ?_
        refine WL.nil ?_
        refine WQ.back _ ⟨i + 1, rfl, by omega, by rw [List.take_add_one, List.take_add_one, hu, hv, hps, Decidable.not_not.1 hc2], rfl, rfl, rfl⟩ (by omega) zcV zsL
    · rw [List.take_of_length_le (by omega), List.take_of_length_le (by omega)] at hps
      refine WC.exit ?_
      refine WQ.thn_exit ?_
      refine WQ.back_exit ?_
      refine WQ.blk_here ?_
      refine WQ.thn ?_
      refine WC.seq ?_
      refine WC.seq ?_
      refine WC.region ?_
      refine WL.pur (Pur.assign rfl) ?_
      refine WL.nil ?_
      refine WQ.thn ?_
      refine WC.block ?_
      refine WC.loop (fun j m σ' H' => ∃ i : Nat, j = x.ops.length - i ∧ i ≤ x.ops.length ∧ x.ops.take i = y.ops.take i ∧ m = [(2, .pointer (some ⟨b2, 0, none⟩)), (3, .pointer (some ⟨b3, 0, none⟩)), (6, .int .i64 (i : Int))] ∧ σ' = σ ∧ H' = (b3, rowO 35 (nodeCells y.au y.cl (.slice qa y.ps.length qc) (.slice ra y.ops.length rc))) :: (b2, rowO 35 (nodeCells x.au x.cl (.slice pa x.ps.length pc) (.slice oa x.ops.length oc))) :: Hr) ⟨0, rfl, by omega, by simp, rfl, rfl, rfl⟩ zcV zsL ?_
      rintro _ _ σ Hr ⟨i, rfl, hi, hos, rfl, rfl, rfl⟩
      refine WC.seq ?_
      refine WC.seq ?_
      refine WC.region ?_
      refine WL.pur (Pur.move rfl) ?_
      refine WL.pur (Pur.fieldAddr rfl fo_35_3) ?_
      refine' WL.pur (Pur.load1 rfl ty_33 ?h26_0) ?k26
      case h26_0 => first | (apply Rd.own1; exact zmE; rfl) | (apply RdV.rd; apply RdV.idx (i := 3); assumption; rfl) | (apply RdV.rd; apply RdV.idx (off := 0) (i := 3); assumption; rfl)
      refine WL.pur (Pur.len rfl isSlice_33) ?_
      refine' WL.pur (Pur.bin rfl rfl ?h27_0) ?k27
      case h27_0 => first | exact Bin.ltN | exact Bin.ltI | exact Bin.ltS
      refine WL.nil ?_
      refine WQ.thn ?_
      first | refine WC.cond rfl (fun hc3 => ?_) (fun hc3 => ?_) | refine WC.condB rfl (fun hc3 => ?_) (fun hc3 => ?_)
      · obtain ⟨u, hu⟩ : ∃ u, x.ops[i]? = some u := ⟨_, List.getElem?_eq_getElem (by omega)⟩
        obtain ⟨v, hv⟩ : ∃ v, y.ops[i]? = some v := ⟨_, List.getElem?_eq_getElem (by omega)⟩
        obtain ⟨_, _, _, ⟨rfl, hku⟩, hru⟩ := hoat i u hu
        obtain ⟨_, _, _, ⟨rfl, hkv⟩, hrv⟩ := hrat i v hv
        refine WC.skip ?_
        refine WQ.thn ?_
        refine WC.seq ?_
        refine WC.block ?_
        refine WC.seq ?_
        refine WC.drawH 12 12 mixed (by kernel_rfl) rfl ?_
        refine SA.take 0 (by kernel_rfl) rfl rfl rfl (Wanted.plain rfl) zsL (View.le_refl _) (Pur.fieldAddr rfl fo_35_3) ?_
        refine' SA.take 1 (by kernel_rfl) rfl rfl rfl (Wanted.plain rfl) zsL (View.le_refl _) (Pur.load1 rfl ty_33 ?h28_0) ?k28
        case h28_0 => first | (apply Rd.own1; exact zmE; rfl) | (apply RdV.rd; apply RdV.idx (i := 3); assumption; rfl) | (apply RdV.rd; apply RdV.idx (off := 0) (i := 3); assumption; rfl)
        refine SA.take 2 (by kernel_rfl) rfl rfl rfl (Wanted.plain rfl) zsL (View.le_refl _) (Pur.move rfl) ?_
        refine' SA.take 3 (by kernel_rfl) rfl rfl rfl (Wanted.plain rfl) zsL (View.le_refl _) (Pur.indexAddr (eqA (heo (by omega))) rfl sl_33 ?h29_0) ?k29
        case h29_0 => omega
        refine' SA.take 4 (by kernel_rfl) rfl rfl rfl (Wanted.plain rfl) zsL (View.le_refl _) (Pur.loadN rfl ty_53 ?h30_0 ?h30_1) ?k30
        case h30_0 => exact RdV.rd hru
        case h30_1 => first | rfl | assumption
        refine SA.take 5 (by kernel_rfl) rfl rfl rfl (Wanted.plain rfl) zsL (View.le_refl _) (Pur.fieldAddr rfl fo_35_3) ?_
        refine' SA.take 6 (by kernel_rfl) rfl rfl rfl (Wanted.plain rfl) zsL (View.le_refl _) (Pur.load1 rfl ty_33 ?h31_0) ?k31
        case h31_0 => first | (apply Rd.own1; exact zmE; rfl) | (apply RdV.rd; apply RdV.idx (i := 3); assumption; rfl) | (apply RdV.rd; apply RdV.idx (off := 0) (i := 3); assumption; rfl)
        refine SA.take 7 (by kernel_rfl) rfl rfl rfl (Wanted.plain rfl) zsL (View.le_refl _) (Pur.move rfl) ?_
        refine' SA.take 8 (by kernel_rfl) rfl rfl rfl (Wanted.plain rfl) zsL (View.le_refl _) (Pur.indexAddr (eqA (her (by omega))) rfl sl_33 ?h32_0) ?k32
        case h32_0 => omega
        refine' SA.take 9 (by kernel_rfl) rfl rfl rfl (Wanted.plain rfl) zsL (View.le_refl _) (Pur.loadN rfl ty_53 ?h33_0 ?h33_1) ?k33
        case h33_0 => exact RdV.rd hrv
        case h33_1 => first | rfl | assumption
        refine SA.callP 10 rfl rfl (Wanted.plain rfl) (by kernel_rfl) rfl Try.call72 zsL (View.le_refl _) ((r4_Same _ u v hku hkv)) ?_
        first | refine SA.take 11 (by kernel_rfl) rfl rfl rfl (Wanted.plain rfl) zsL (View.le_refl _) (Pur.not rfl) ?_ | refine SA.take 11 (by kernel_rfl) rfl rfl rfl (Wanted.plain rfl) zsL (View.le_refl _) (Pur.notB rfl) ?_
        refine SA.done (by kernel_rfl) ?_
        refine WQ.thn ?_
        first | refine WC.cond rfl (fun hc4 => ?_) (fun hc4 => ?_) | refine WC.condB rfl (fun hc4 => ?_) (fun hc4 => ?_)
        · refine WC.seq ?_
          refine WC.region ?_
          refine WL.pur (Pur.assign rfl) ?_
          refine WL.nil ?_
          refine WQ.thn ?_
          refine WC.ret ?_
          refine WQ.blk_ret ?_
          refine WQ.thn_ret ?_
          refine WQ.back_ret ?_
          refine WQ.blk_ret ?_
          refine WQ.thn_ret ?_
          refine WQ.ret1 Try.results60 rfl [] zsL (View.le_refl _) ?_
          refine ⟨?_, rfl, rfl⟩
          exact boolF (by rintro rfl; rw [hu] at hv; cases hv; exact hc4 rfl)
        · refine WC.skip ?_
          refine WQ.blk ?_
          refine WQ.thn ?_
          refine WC.region ?_
          refine WL.pur (Pur.move rfl) ?_
          refine' WL.pur (Pur.bin rfl rfl ?h34_0) ?k34
          case h34_0 => first | (refine Bin.addN (b := 1) ?_; omega) | (refine Bin.addI ?_; omega)
          refine WL.pur (Pur.assign rfl) ?_
          refine WL.nil ?_
          refine WQ.back _ ⟨i + 1, rfl, by omega, by rw [List.take_add_one, List.take_add_one, hu, hv, hos, Decidable.not_not.1 hc4], rfl, rfl, rfl⟩ (by omega) zcV zsL
      · refine WC.exit ?_
        refine WQ.thn_exit ?_
        refine WQ.back_exit ?_
        refine WQ.blk_here ?_
        refine WQ.thn ?_
        refine WC.seq ?_
        refine WC.region ?_
        refine WL.pur (Pur.assign rfl) ?_
        refine WL.nil ?_
        refine WQ.thn ?_
        refine WC.ret ?_
        refine WQ.ret1 Try.results60 rfl [] zsL (View.le_refl _) ?_
        refine ⟨?_, rfl, rfl⟩
        rw [List.take_of_length_le (by omega), List.take_of_length_le (by omega)] at hos; exact boolT (nodeD_eq eau ecl hps hos)

theorem r5_SameEntry (σ : View) (x y : EntD) (pv ov qv rv : Value) (hx : NodeR σ x.node pv ov) (hy : NodeR σ y.node qv rv) (hxi : IsH x.id) (hyi : IsH y.id) :
    TriP Try.prog 39 #[.agg (entCells x.id x.node.au x.node.cl pv ov).toArray, .agg (entCells y.id y.node.au y.node.cl qv rv).toArray] σ (.bool (decide (x = y))) := by
  have hx2 := hx
  have hy2 := hy
  obtain ⟨pa, pc, rfl, _, _⟩ := hx2.1.shape
  obtain ⟨oa, oc, rfl, _, _⟩ := hx2.2.1.shape
  obtain ⟨qa, qc, rfl, _, _⟩ := hy2.1.shape
  obtain ⟨ra, rc, rfl, _, _⟩ := hy2.2.1.shape
  refine Tri.of_body [(0, .agg (entCells x.id x.node.au x.node.cl (.slice pa x.node.ps.length pc) (.slice oa x.node.ops.length oc)).toArray), (1, .agg (entCells y.id y.node.au y.node.cl (.slice qa y.node.ps.length qc) (.slice ra y.node.ops.length rc)).toArray)] Try.func39 rfl Try.ntmps39 (by simp) rfl (fun Hr => ?_)
  rw [List.nil_append]
  refine WC.seq ?_
  refine WC.region ?_
  refine WL.new (New.boxN rfl) (fun b2 => ?_)
  refine WL.new (New.boxN rfl) (fun b3 => ?_)
  refine WL.pur (Pur.assign rfl) ?_
  refine WL.nil ?_
  refine WQ.thn ?_
  refine WC.seq ?_
  refine WC.region ?_
  refine WL.pur (Pur.fieldAddr rfl fo_37_0) ?_
  refine' WL.pur (Pur.loadN rfl ty_31 ?h1_0 ?h1_1) ?k1
  case h1_0 => first | (apply Rd.own_sub; exact zmE; exact Sub.ent_hash _ _ _ _ _) | (apply RdV.rd; apply RdV.sub0; assumption; exact Sub.ent_hash _ _ _ _ _)
  case h1_1 => first | rfl | assumption
  refine WL.pur (Pur.fieldAddr rfl fo_37_0) ?_
  refine' WL.pur (Pur.loadN rfl ty_31 ?h2_0 ?h2_1) ?k2
  case h2_0 => first | (apply Rd.own_sub; exact zmE; exact Sub.ent_hash _ _ _ _ _) | (apply RdV.rd; apply RdV.sub0; assumption; exact Sub.ent_hash _ _ _ _ _)
  case h2_1 => first | rfl | assumption
  refine' WL.pur (Pur.bin rfl rfl ?h3_0) ?k3
  case h3_0 => (refine Bin.eqH isHash_31 ?_ ?_ <;> assumption)
  refine WL.pur (Pur.move rfl) ?_
  refine' WL.andp (u := 10) (t := 16) rfl ?h4_0 ?h4_1 ?h4_2 rfl ?k4
  case h4_0 =>
    intro hg10 K10
    refine WL.gpur (u := 10) rfl rfl (gT hg10) (Pur.fieldAddr rfl fo_37_1) ?_
    refine' WL.gpur (u := 10) rfl rfl (gT hg10) (Pur.loadN rfl ty_35 ?h5_0 ?h5_1) ?k5
    case h5_0 => first | (apply Rd.own_sub; exact zmE; exact Sub.ent_node _ _ _ _ _) | (apply RdV.rd; apply RdV.sub (i := 32); assumption; exact Sub.ent_node _ _ _ _ _)
    case h5_1 => first | rfl | assumption
    refine WL.gpur (u := 10) rfl rfl (gT hg10) (Pur.fieldAddr rfl fo_37_1) ?_
    refine' WL.gpur (u := 10) rfl rfl (gT hg10) (Pur.loadN rfl ty_35 ?h6_0 ?h6_1) ?k6
    case h6_0 => first | (apply Rd.own_sub; exact zmE; exact Sub.ent_node _ _ _ _ _) | (apply RdV.rd; apply RdV.sub (i := 32); assumption; exact Sub.ent_node _ _ _ _ _)
    case h6_1 => first | rfl | assumption
    refine WL.gcallP (u := 10) rfl rfl (gT hg10) rfl Try.call60 ((r5_Same _ x.node y.node _ _ _ _ hx hy)) ?_
    exact K10 _ zcR rfl
  case h4_1 =>
    intro hg10 K10
    refine WL.gskip (u := 10) rfl rfl (sT hg10) ?_
    refine WL.gskip (u := 10) rfl rfl (sT hg10) ?_
    refine WL.gskip (u := 10) rfl rfl (sT hg10) ?_
    refine WL.gskip (u := 10) rfl rfl (sT hg10) ?_
    refine WL.gskip (u := 10) rfl rfl (sT hg10) ?_
    exact K10 _ zcR
  case h4_2 => exact Wanted.plain rfl
  refine WL.pur (Pur.assign rfl) ?_
  refine WL.nil ?_
  refine WQ.thn ?_
  refine WC.ret ?_
  refine WQ.ret1 Try.results39 rfl [] zsL (View.le_refl _) ?_
  refine ⟨?_, rfl, rfl⟩
  exact decB entD_eq

end Go.Proofs.Ytgoooilgmabkmaa
namespace Go.Proofs.Ytgoooilgmabkmaa
open Go Go.Sl
set_option linter.unusedVariables false
set_option linter.unusedSimpArgs false
set_option maxRecDepth 100000


theorem Tri_giveS {P : Program} {f : FuncId} {args : Array Value} {σ : View} {H : HList} {α : Type} {E : Enc α} (hE : E.Mono) {T : TypeId} {sz : Nat} (byt : Nat) {Φ : Value → Value → List α → Prop} (h : Tri P f args σ H (fun v σ' H' => ∃ sv l, Φ v sv l ∧ l.length * byt ≤ 140737488355328 ∧ SlO σ' E T sz sv l H')) :
    Tri P f args σ H (fun v σ' H' => (∃ sv l, Φ v sv l ∧ SlE σ' E sz byt sv l) ∧ H' = []) := fun Hr w hs =>
  (h Hr w hs).mono fun _ w' ⟨v, σ', H', e, ⟨sv, l, hΦ, hb, hso⟩, hle, hst⟩ => by
    obtain ⟨σ2, h1, h2, h3⟩ := St.giveS (byt := byt) (H1 := []) (H2 := Hr) hE hso hb (by simpa using hst)
    exact ⟨v, σ2, [], e, ⟨⟨sv, l, hΦ, h2⟩, rfl⟩, View.le_trans hle h1, by simpa using h3⟩
theorem past_NumberK (σ : View) (pv : Value) (L : List EntD) (id k : Nat) (h : PastV σ pv L) (hid : IsH id) (hk : idxOf L id = some k) : TriP Try.prog 23 #[pv, hashV id] σ (.int .i64 (k : Int)) := by
  have := past_Number σ pv L id h hid
  rw [hk] at this
  exact this
theorem past_SinceK (σ : View) (pv ov nv : Value) (L : List EntD) (os ns : List Nat) (h : PastV σ pv L) (ho : OrdOk L) (hO : Hashes σ ov os) (hN : Hashes σ nv ns) (h1 : allH L os) (h2 : allH L ns) :
    Tri Try.prog 51 #[pv, ov, nv] σ [] (fun v σ' H' => (∃ sv, v = .tuple #[sv, .int .i64 0] ∧ Hashes σ' sv (selN L (sinceP L os ns) L.length)) ∧ H' = []) := by
  have hmost := ho.most
  refine (Tri_giveS (T := 31) (sz := 32) eHash_mono 32 (Φ := fun v sv l => v = .tuple #[sv, .int .i64 0] ∧ l = selN L (sinceP L os ns) L.length) ((past_Since σ pv ov nv L os ns h ho hO hN).mono ?_)).mono ?_
  · rintro v σ' H' ⟨sv, ev, rfl, ⟨rfl, h1, h2, h3, hso, rfl⟩ | ⟨rfl, h3, rfl, rfl⟩⟩
    · refine ⟨sv, _, ⟨rfl, rfl⟩, ?_, hso⟩
      have := selN_len L (sinceP L os ns) L.length
      omega
    · exact absurd ⟨h1, h2⟩ h3
  · rintro v σ' H' ⟨⟨sv, l, ⟨rfl, rfl⟩, hs⟩, rfl⟩
    exact ⟨⟨sv, rfl, hs⟩, rfl⟩
theorem past_AtK (σ : View) (pv hv : Value) (L : List EntD) (hs : List Nat) (h : PastV σ pv L) (h1 : OneOrd L) (hh : Hashes σ hv hs) (ha : allH L hs) :
    Tri Try.prog 17 #[pv, hv] σ [] (fun v σ' H' => (∃ qb, v = .tuple #[.pointer (some ⟨qb, 0, none⟩), .int .i64 0] ∧ PastV σ' (.pointer (some ⟨qb, 0, none⟩)) (atL L (inH L hs) L.length)) ∧ H' = []) := by
  refine (past_At σ pv hv L hs h h1 hh).mono ?_
  rintro v σ' H' ⟨⟨pa, ev, rfl, ⟨rfl, _, hp⟩ | ⟨_, h2, _⟩⟩, rfl⟩
  · have hp2 := hp
    obtain ⟨qb, _, _, _, e, _⟩ := hp2
    cases e
    exact ⟨⟨qb, rfl, hp⟩, rfl⟩
  · exact absurd ha h2
theorem past_CommonK (σ : View) (pv : Value) (L : List EntD) (a b : Nat) (h : PastV σ pv L) (ho : OrdOk L) (ha : IsH a) (hb : IsH b) (h1 : allH L [a]) (h2 : allH L [b]) :
    Tri Try.prog 26 #[pv, hashV a, hashV b] σ [] (fun v σ' H' => (∃ sv, v = .tuple #[sv, .int .i64 0] ∧ Hashes σ' sv (sortN (topsN L (bothP L a b) L.length))) ∧ H' = []) := by
  refine (past_Common σ pv L a b h ho ha hb).mono ?_
  rintro v σ' H' ⟨⟨sv, ev, rfl, ⟨rfl, _, _, hs⟩ | ⟨_, h3, _⟩⟩, rfl⟩
  · exact ⟨⟨sv, rfl, hs⟩, rfl⟩
  · exact absurd ⟨h1, h2⟩ h3
/-- a hash of a list -/
theorem hash_rdD {σ : View} {a : Option Addr} {n c b off : Nat} {l : List Nat} (h : Hashes σ (.slice a n c) l) (e : 0 < l.length → a = some ⟨b, off, none⟩) {i : Nat} (hi : i < l.length) : IsH (l.getD i 0) ∧ RdV σ b (off + i * 32) (hashCells (l.getD i 0)) ∧ l[i]? = some (l.getD i 0) := by
  obtain ⟨b2, off2, e2, hat⟩ := h.rds
  have e3 := e (by omega)
  rw [e2 (by omega)] at e3
  cases e3
  have h1 : l[i]? = some (l.getD i 0) := by rw [List.getD_eq_getElem?_getD, List.getElem?_eq_getElem hi]; rfl
  obtain ⟨_, _, _, ⟨rfl, hxh⟩, hxr⟩ := hat i _ h1
  exact ⟨hxh, hxr, h1⟩
/-! ### counts -/
theorem selN_count (L : List EntD) (q : Nat → Prop) [DecidablePred q] (n : Nat) : (selN L q n).length = ((List.range n).filter fun i => decide (q i)).length := by simp [selN]
theorem atL_count {L : List EntD} {q : Nat → Prop} [DecidablePred q] : ∀ n, n ≤ L.length → (atL L q n).length = ((List.range n).filter fun i => decide (q i)).length
  | 0, _ => by simp [atL_zero]
  | n + 1, h => by
    rw [atL_succ (List.getElem?_eq_getElem (show n < L.length by omega)), List.range_succ, List.filter_append, List.length_append, List.length_append, atL_count n (by omega)]
    by_cases hq : q n
    · simp [hq]
    · simp [hq]
theorem filt_count {p q r : Nat → Prop} [DecidablePred p] [DecidablePred q] [DecidablePred r] (h1 : ∀ i, r i ↔ p i ∨ q i) (h2 : ∀ i, p i → ¬ q i) : ∀ n : Nat, ((List.range n).filter fun i => decide (p i)).length + ((List.range n).filter fun i => decide (q i)).length = ((List.range n).filter fun i => decide (r i)).length
  | 0 => by simp
  | n + 1 => by
    have ih := filt_count h1 h2 n
    simp only [List.range_succ, List.filter_append, List.length_append]
    have h3 := h1 n
    have h4 := h2 n
    by_cases hp : p n
    · have hq := h4 hp
      have hr := h3.2 (.inl hp)
      simp [hp, hq, hr]; omega
    · by_cases hq : q n
      · have hr := h3.2 (.inr hq)
        simp [hp, hq, hr]; omega
      · have hr : ¬ r n := fun h => (h3.1 h).elim hp hq
        simp [hp, hq, hr]; omega
theorem inH_three {L : List EntD} {a b k1 k2 : Nat} (h1 : idxOf L a = some k1) (h2 : idxOf L b = some k2) (i : Nat) : inH L [b, a, b] i ↔ inH L [a] i ∨ inH L [b] i := by
  have e : [b, a, b] = ([b] ++ [a]) ++ [b] := rfl
  rw [e, inH_snoc h2, inH_snoc h1, inH_one h2, inH_one h1]
  constructor
  · rintro ((h | h) | h)
    · exact .inr h
    · exact .inl h
    · exact .inr h
  · rintro (h | h)
    · exact .inl (.inr h)
    · exact .inr h
theorem since_count {L : List EntD} {a b k1 k2 : Nat} (h1 : idxOf L a = some k1) (h2 : idxOf L b = some k2) : (selN L (sinceP L [a] [b]) L.length).length + (atL L (inH L [a]) L.length).length = (atL L (inH L [b, a, b]) L.length).length := by
  rw [selN_count, atL_count _ (Nat.le_refl _), atL_count _ (Nat.le_refl _)]
  refine filt_count (fun i => ?_) (fun i h => h.2) _
  rw [inH_three h1 h2]
  unfold sinceP
  constructor
  · rintro (h | h)
    · exact .inr h
    · by_cases ha : inH L [a] i
      · exact .inr ha
      · exact .inl ⟨h, ha⟩
  · rintro (h | h)
    · exact .inr h.1
    · exact .inl h
theorem since_none (L : List EntD) (b : List Nat) : selN L (sinceP L b b) L.length = [] := by
  unfold selN
  rw [List.filter_eq_nil_iff.2 (fun i _ => by simp [sinceP])]
  rfl
/-- the numbers of some entries, rising -/
def selI (L : List EntD) (q : Nat → Prop) [DecidablePred q] : List Nat := (List.range L.length).filter fun i => decide (q i)
theorem selN_eq (L : List EntD) (q : Nat → Prop) [DecidablePred q] : selN L q L.length = (selI L q).map (idAt L) := rfl
theorem selI_mem {L : List EntD} {q : Nat → Prop} [DecidablePred q] {i : Nat} : i ∈ selI L q ↔ i < L.length ∧ q i := by unfold selI; simp
theorem selI_lt {L : List EntD} {q : Nat → Prop} [DecidablePred q] {i j a b : Nat} (hij : i < j) (ha : (selI L q)[i]? = some a) (hb : (selI L q)[j]? = some b) : a < b := by
  obtain ⟨h1, e1⟩ := List.getElem?_eq_some_iff.1 ha
  obtain ⟨h2, e2⟩ := List.getElem?_eq_some_iff.1 hb
  have hup : (selI L q).Pairwise (· < ·) := List.Pairwise.sublist List.filter_sublist List.pairwise_lt_range
  have := List.pairwise_iff_getElem.1 hup i j h1 h2 hij
  rw [e1, e2] at this
  exact this
theorem idx_idAt {L : List EntD} (ho : OrdOk L) {i : Nat} (hi : i < L.length) : idxOf L (idAt L i) = some i := by
  have := idxOf_of ho.nodup (List.getElem?_eq_getElem hi)
  rwa [← idAt_of (List.getElem?_eq_getElem hi)] at this
theorem idx_at {L : List EntD} (ho : OrdOk L) {q : Nat → Prop} [DecidablePred q] {i : Nat} (hi : i < L.length) : (idxOf (atL L q L.length) (idAt L i) = none) ↔ ¬ q i := by
  rw [idxOf_none]
  constructor
  · intro h hq
    have hm : i ∈ atI L q L.length := atI_mem.2 ⟨hi, hq⟩
    obtain ⟨k, hk⟩ := List.getElem?_of_mem hm
    have : (atL L q L.length)[k]? = some L[i] := by rw [atL_get, hk]; exact List.getElem?_eq_getElem hi
    exact h _ (List.mem_of_getElem? this) (idAt_of (List.getElem?_eq_getElem hi)).symm
  · intro hq e he hid
    obtain ⟨k, hk⟩ := List.getElem?_of_mem he
    obtain ⟨a, _, hae, hqa⟩ := atL_at hk
    have e1 := idxOf_of ho.nodup hae
    rw [hid, idx_idAt ho hi] at e1
    cases e1
    exact hq hqa

theorem r1_Rising (σ : View) (lv : Value) (l : List Nat) (h : Hashes σ lv l) :
    TriP Try.prog 28 #[lv] σ (.bool (decide (Rises l))) := by
  have h' := h
  obtain ⟨a, cap, rfl, hcap, hby⟩ := h.shape
  refine Tri.of_body [(0, .slice a l.length cap)] Try.func28 rfl Try.ntmps28 (by simp) rfl (fun Hr => ?_)
  rw [List.nil_append]
  refine WC.seq ?_
  refine WC.region ?_
  refine WL.pur (Pur.assign rfl) ?_
  refine WL.nil ?_
  refine WQ.thn ?_
  refine WC.seq ?_
  refine WC.seq ?_
  refine WC.region ?_
  refine WL.pur (Pur.assign rfl) ?_
  refine WL.nil ?_
  refine WQ.thn ?_
  refine WC.block ?_
  refine WC.loop (fun j m σ' H' => ∃ i : Nat, j = l.length + 1 - i ∧ 1 ≤ i ∧ (i ≤ l.length ∨ i = 1) ∧ Rises (l.take i) ∧ m = [(0, .slice a l.length cap), (3, .int .i64 (i : Int))] ∧ σ' = σ ∧ H' = Hr) ⟨1, rfl, by omega, by omega, rises_take0 l, rfl, rfl, rfl⟩ zcV zsL ?_
  rintro _ _ σ Hr ⟨i, rfl, hi1, hi, hr, rfl, rfl, rfl⟩
  refine WC.seq ?_
  refine WC.seq ?_
  refine WC.region ?_
  refine WL.pur (Pur.move rfl) ?_
  refine WL.pur (Pur.move rfl) ?_
  refine WL.pur (Pur.len rfl isSlice_32) ?_
  refine' WL.pur (Pur.bin rfl rfl ?h1_0) ?k1
  case h1_0 => first | exact Bin.ltN | exact Bin.ltI | exact Bin.ltS
  refine WL.nil ?_
  refine WQ.thn ?_
  first | refine WC.cond rfl (fun hc0 => ?_) (fun hc0 => ?_) | refine WC.condB rfl (fun hc0 => ?_) (fun hc0 => ?_)
  · obtain ⟨b, off, cap', e, hcap', hby', hat⟩ := h'.at (by omega)
    cases e
    obtain ⟨x, hx⟩ : ∃ x, l[i - 1]? = some x := ⟨_, List.getElem?_eq_getElem (by omega)⟩
    obtain ⟨y, hy⟩ : ∃ y, l[i]? = some y := ⟨_, List.getElem?_eq_getElem (by omega)⟩
    obtain ⟨vx, hvl, hvo, ⟨rfl, hxH⟩, hrx⟩ := hat _ x hx
    obtain ⟨vy, hvl', hvo', ⟨rfl, hyH⟩, hry⟩ := hat _ y hy
    have hcmp : cmpH x y ≥ 0 ↔ ¬ x < y := cmpH_ge
    refine WC.skip ?_
    refine WQ.thn ?_
    refine WC.seq ?_
    refine WC.block ?_
    refine WC.seq ?_
    refine WC.draw 11 11 ([]) mixed (by kernel_rfl) rfl ?_
    refine SA.take 0 (by kernel_rfl) rfl rfl rfl (Wanted.plain rfl) (List.nil_sublist _) (View.le_refl _) (Pur.move rfl) ?_
    refine SA.take 1 (by kernel_rfl) rfl rfl rfl (Wanted.plain rfl) (List.nil_sublist _) (View.le_refl _) (Pur.move rfl) ?_
    refine' SA.take 2 (by kernel_rfl) rfl rfl rfl (Wanted.plain rfl) (List.nil_sublist _) (View.le_refl _) (Pur.bin rfl rfl ?h2_0) ?k2
    case h2_0 => exact Bin.subK (c := i - 1) (by omega) (by omega)
    refine' SA.take 3 (by kernel_rfl) rfl rfl rfl (Wanted.plain rfl) (List.nil_sublist _) (View.le_refl _) (Pur.indexAddr rfl rfl sl_32 ?h3_0) ?k3
    case h3_0 => omega
    refine' SA.take 4 (by kernel_rfl) rfl rfl rfl (Wanted.plain rfl) (List.nil_sublist _) (View.le_refl _) (Pur.loadN rfl ty_31 ?h4_0 ?h4_1) ?k4
    case h4_0 => exact RdV.rd hrx
    case h4_1 => first | rfl | assumption
    refine SA.take 5 (by kernel_rfl) rfl rfl rfl (Wanted.plain rfl) (List.nil_sublist _) (View.le_refl _) (Pur.move rfl) ?_
    refine SA.take 6 (by kernel_rfl) rfl rfl rfl (Wanted.plain rfl) (List.nil_sublist _) (View.le_refl _) (Pur.move rfl) ?_
    refine' SA.take 7 (by kernel_rfl) rfl rfl rfl (Wanted.plain rfl) (List.nil_sublist _) (View.le_refl _) (Pur.indexAddr rfl rfl sl_32 ?h5_0) ?k5
    case h5_0 => omega
    refine' SA.take 8 (by kernel_rfl) rfl rfl rfl (Wanted.plain rfl) (List.nil_sublist _) (View.le_refl _) (Pur.loadN rfl ty_31 ?h6_0 ?h6_1) ?k6
    case h6_0 => exact RdV.rd hry
    case h6_1 => first | rfl | assumption
    refine SA.callP 9 rfl rfl (Wanted.plain rfl) (by kernel_rfl) rfl Try.call14 (List.nil_sublist _) (View.le_refl _) ((r1_compare _ _ _ hxH hyH)) ?_
    refine' SA.take 10 (by kernel_rfl) rfl rfl rfl (Wanted.plain rfl) (List.nil_sublist _) (View.le_refl _) (Pur.bin rfl rfl ?h7_0) ?k7
    case h7_0 => first | exact Bin.geN (b := 0) | exact Bin.geI
    refine SA.done (by kernel_rfl) ?_
    refine WQ.thn ?_
    first | refine WC.cond rfl (fun hc1 => ?_) (fun hc1 => ?_) | refine WC.condB rfl (fun hc1 => ?_) (fun hc1 => ?_)
    · refine WC.seq ?_
      refine WC.region ?_
      refine WL.pur (Pur.assign rfl) ?_
      refine WL.nil ?_
      refine WQ.thn ?_
      refine WC.ret ?_
      refine WQ.blk_ret ?_
      refine WQ.thn_ret ?_
      refine WQ.back_ret ?_
      refine WQ.blk_ret ?_
      refine WQ.thn_ret ?_
      refine WQ.ret1 Try.results28 rfl [] zsL (View.le_refl _) ?_
      refine ⟨?_, rfl, rfl⟩
      exact boolF (rises_not hi1 hx hy (by omega))
    · refine WC.skip ?_
      refine WQ.blk ?_
      refine WQ.thn ?_
      refine WC.region ?_
      refine WL.pur (Pur.move rfl) ?_
      refine' WL.pur (Pur.bin rfl rfl ?h8_0) ?k8
      case h8_0 => first | (refine Bin.addN (b := 1) ?_; omega) | (refine Bin.addI ?_; omega)
      refine WL.pur (Pur.assign rfl) ?_
      refine WL.nil ?_
      refine WQ.back _ ⟨i + 1, rfl, by omega, by omega, rises_step hr hi1 hx hy (by omega), rfl, rfl, rfl⟩ (by omega) zcV zsL
  · refine WC.exit ?_
    refine WQ.thn_exit ?_
    refine WQ.back_exit ?_
    refine WQ.blk_here ?_
    refine WQ.thn ?_
    refine WC.seq ?_
    refine WC.region ?_
    refine WL.pur (Pur.assign rfl) ?_
    refine WL.nil ?_
    refine WQ.thn ?_
    refine WC.ret ?_
    refine WQ.ret1 Try.results28 rfl [] zsL (View.le_refl _) ?_
    refine ⟨?_, rfl, rfl⟩
    exact boolT (by rw [List.take_of_length_le (by omega)] at hr; exact hr)

end Go.Proofs.Ytgoooilgmabkmaa
